import PyProof.Rows.All
import PyProof.ExcArgsOwn
import PyProof.IsInstance
import PyProof.DictRoads
import PyProof.DictDisplay
import PyProof.DictWalks
import PyProof.P3Statements
import PyProof.StrBlockL
import PyProof.StrBlock2
import PyProof.Rows.StrNews2
import KE.KIntText
import PyProof.Cells
import PyProof.CompFree
import PyProof.RulesTry
import PyProof.RulesAs
import PyProof.StationsW
import PyProof.DictList
import PyProof.TupleOps
import PyProof.ListOps
import PyProof.DictKinds
import PyProof.ExcClass2
import PyProof.ObjNew
import PyProof.InstLoad
import PyProof.InstStoreFacts
import PyProof.EqLayable
import PyProof.Rows.StrJoin2
import PyProof.Rows.StrJoinMade
import PyProof.CallStr
import PyProof.Rows.StrSplitAre
import PyProof.RaisesMany
import PyProof.Rows.PlainStore
import PyProof.StrLoop
import PyProof.StrWalks
import PyProof.Rows.TupAssign
import PyProof.ExcBaseAll.ValueError
import PyProof.NsDelKeeps
import PyProof.CallRoads
import PyProof.AssignAttr
import PyProof.Rows.Own
import Wide.All
import OpenK.KLine
import Open.Line
import Open.Seg
import Open.Boot
import Wide.FinOn
import Lean
import PySem.Challenge.RW_uf040020_12
set_option Elab.async false
set_option autoImplicit false
set_option genSizeOf false
set_option genInjectivity false

section
set_option maxRecDepth 100000
namespace Mine
open PySem
noncomputable def bmX : List Value := [.type "ValueError", .type "Exception", .type "BaseException", .type "object"]
noncomputable def zDt : List Str := ["__getattribute__", "__getattr__", "__class__"]
inductive TailC (h : Heap) : List Value -> Prop
 | base : TailC h bmX
 | own {A : Addr} {c0 : Value} {dd : Option Addr} {cd : ClassData} {sl : Array (Option Value)} {mA : Str -> Option Value} {tl : List Value} :
   h.get? A = some { cls := c0, dict := dd, data := .cls cd, slots := sl } -> h.Ns cd.ns mA -> (∀ n ∈ zDt, mA n = none) -> TailC h tl -> TailC h (.ref A :: tl)
theorem TailC.keeps {h h' : Heap} {tl : List Value} (T : TailC h tl) (hk : ∀ b o, h.get? b = some o -> h'.get? b = some o) : TailC h' tl := by
 induction T with
 | base => exact .base
 | own hA hN hq _ ih => exact .own (hk _ _ hA) (hN.keeps hk) hq ih
theorem TailC.has {h : Heap} {tl : List Value} (T : TailC h tl) {v : Value} (hv : bmX.contains v = true) : tl.contains v = true := by
 induction T with
 | base => exact hv
 | own _ _ _ _ ih => rw [List.contains_cons, ih, Bool.or_true]
section
variable {prog : Program} {w : World} {A : Around} {E : Value -> Shared -> Prop} {h : Heap} {g : Array GenState} {d : Drawn} {t : Nat} {os : OsState} {a : Addr} {o : Obj}
 {nm q : Str} {C N : Addr} {bs bm : List Value} {hdct : Bool} {sn : List Str} {sub : List Value} {ab : Bool} {col : Option Bool} {dd : Option Addr} {k0 k1 k2 k3 k5 : Option Value} {newId : String}
variable {nm' q' : Str} {K N' : Addr} {bs' bm' : List Value} {hdct' : Bool} {sn' : List Str} {sub' : List Value} {ab' : Bool} {col' : Option Bool} {dd' : Option Addr} {k0' k1' k2' k3' k5' : Option Value} {newId' : String}
theorem zHb {dep : Int} {tk : Tok} {Q : Fin -> Shared -> Prop} (hC : h.get? C = some (excClassObj nm q C N bs bm hdct sn sub ab col dd k0 k1 k2 k3 k5 newId)) (T : TailC h (.ref C :: bm))
  (hx : h.get? a = some o) (hc : o.cls = .ref C) (h1 : Q (.done (.ret (.bool true))) ⟨h, g, d, t, os⟩) :
  wpAny (model prog w) A (Builtin.«isinstance.nested» ⟨[.ref a, .type "ValueError", .int dep tk], []⟩) Q E ⟨h, g, d, t, os⟩ := by
 have hb : (Value.ref C :: bm).contains (.type "ValueError") = true := T.has rfl
 have he : ¬ ((Value.ref C == Value.type "ValueError") = true) := fun h => nomatch (beq_iff_eq.mp h)
 have hty : typeOf (.type "ValueError") = pure (.type "type") := by kernel_rfl
 repeat (any_goals (first | assumption | (with_reducible refine wpAny_loadPart_at hx ?_; rw [hc]) | (with_reducible refine wpAny_isSubtype_exc hC ?_; rw [hb]) | wp_step))
theorem zNr {Q : Value -> Shared -> Prop} (hC : h.get? C = some (excClassObj nm q C N bs bm hdct sn sub ab col dd k0 k1 k2 k3 k5 newId)) (T : TailC h (.ref C :: bm))
  (hx : h.get? a = some o) (hc : o.cls = .ref C) (h1 : Q (.bool true) ⟨h, g, d, t, os⟩) :
  wpAny (model prog w) A (call (.builtin "isinstance") [.ref a, .type "ValueError"]) Q E ⟨h, g, d, t, os⟩ :=
 call_isinstance (S := fun _ R s => s = ⟨h, g, d, t, os⟩ /\ R (.ok (.ret (.bool true))) ⟨h, g, d, t, os⟩)
  (fun _ _ _ _ s hs => by obtain ⟨rfl, h1⟩ := hs; exact isinstance_outer (zHb hC T hx hc h1)) ⟨rfl, h1⟩
end
end Mine
end

section
namespace Mine
open PySem
section
variable {prog : Program} {w : World} {K : Type} [DecidableEq K] {knd : KeyKind prog w K} {A : Around} {E : Value -> Shared -> Prop} {s : Shared} {d : Addr} {kvs : List (K × Value)} {k : K} {key v : Value}
noncomputable def Even (knd : KeyKind prog w K) (h : Heap) (d : Addr) (kvs : List (K × Value)) : Prop := h.DictOf knd d kvs
theorem zDR {Q : Unit -> Shared -> Prop} (hkey : knd.is k key = true) (hm : Even knd s.heap d kvs) (hQ : ∀ h', Even knd h' d (stored kvs k v) -> Heap.SameBut d s.heap h' -> Q () { s with heap := h', toks := s.toks + 1 })
  (hsz : kvs.length <= sizeLine) : wpAny (model prog w) A (setItem (.ref d) key v) Q E s := wpAny_setItem_pairs hkey hm hQ hsz
theorem zJX {env : Env} {ke ve : Expr} {pos : Pos} {Q : Value -> Shared -> Prop}
  (h : wpAny (model prog w) A (evalPairs [(eval ke env, do let x <- eval ve env; standAt pos; pure x)]) (fun vs s₁ => ∃ (key vv : Value) (k : K), vs = [(key, vv)] /\ knd.is k key = true /\ Even knd s₁.heap s.heap.objs.size [] /\
   ∀ h', Even knd h' s.heap.objs.size [(k, vv)] -> Heap.SameBut s.heap.objs.size s₁.heap h' -> Q (.ref s.heap.objs.size) { s₁ with heap := h', toks := s₁.toks + 1 }) E { s with heap := s.heap.push { cls := .type "dict", data := .dict #[] } }) :
  wpAny (model prog w) A (eval (.Dict [some ke] [ve] pos) env) Q E s :=
 wpAny_Dict_pairs (knd := knd) (pairs := [(eval ke env, do let x <- eval ve env; standAt pos; pure x)]) rfl (List.cons_ne_nil _ _) (by show 1 <= 15; decide) (wpAny_mono h (fun vs s₁ q => by
  obtain ⟨key, vv, k, rfl, hkey, hm, hQ⟩ := q
  exact ⟨[(k, vv)], ⟨hkey, rfl, trivial⟩, hm, hQ⟩) fun _ _ e => e)
theorem Even.dictOf {h : Heap} (x : Even knd h d kvs) : h.DictOf knd d kvs := x
theorem Even.at {h h' : Heap} (e : h'.get? d = h.get? d) (x : Even knd h d kvs) : Even knd h' d kvs := by
 obtain ⟨o, es, ep, ho, r⟩ := x
 exact ⟨o, es, ep, e.trans ho, r⟩
theorem Even.new {h : Heap} : Even knd (h.push { cls := .type "dict", data := .dict #[] }) h.objs.size [] := Heap.DictOf.new _
theorem Even.live {h : Heap} (x : Even knd h d kvs) : ∃ o, h.get? d = some o := by
 obtain ⟨o, _, _, e, _⟩ := x.dictOf
 exact ⟨o, e⟩
end
end Mine
end

section
namespace Mine
open PySem
inductive Cls where
 | FlowError | NoDeed | NoLines | NoItem | NoNumber | FullBook | NoOrder | SameOrder | NoLine | TooMuch | NothingDone | ValueError
 deriving DecidableEq
noncomputable def Cls.sub (c d : Cls) : Bool := c == d || d == .ValueError || (d == .FlowError && c != .ValueError)
inductive V where
 | undef
 | none
 | bool (b : Bool)
 | int (i : Int)
 | str (s : Str)
 | tup (xs : List V)
 | lst (xs : List V)
 | ref (n : Nat)
 | exc (c : Cls)
 | parts
inductive O where
 | list (xs : List V)
 | dict (es : List (Int × V))
 | inst (attrs : List (Nat × V))
noncomputable abbrev Sto := List O
inductive R (α : Type) where
 | ok (a : α) (U : Sto)
 | exc (c : Cls) (U : Sto)
 | stuck
noncomputable def R.bind {α β : Type} : R α -> (α -> Sto -> R β) -> R β
 | .ok a U, f => f a U
 | .exc c U, _ => .exc c U
 | .stuck, _ => .stuck
@[simp] theorem R.bind_ok {α β : Type} (a : α) (U : Sto) (f : α -> Sto -> R β) : (R.ok a U).bind f = f a U := rfl
@[simp] theorem R.bind_exc {α β : Type} (c : Cls) (U : Sto) (f : α -> Sto -> R β) : (R.exc c U : R α).bind f = .exc c U := rfl
@[simp] theorem R.bind_stuck {α β : Type} (f : α -> Sto -> R β) : (R.stuck : R α).bind f = .stuck := rfl
noncomputable def R.lift {α : Type} (U : Sto) : Option α -> R α
 | some a => .ok a U
 | none => .stuck
@[simp] theorem R.lift_some {α : Type} (U : Sto) (a : α) : R.lift U (some a) = .ok a U := rfl
@[simp] theorem R.lift_none {α : Type} (U : Sto) : R.lift U (none : Option α) = .stuck := rfl
inductive Kd where
 | int | bool | str | list | tuple | exc (c : Cls)
 deriving DecidableEq
inductive P1 where
 | not | neg | abs | len | toList | toTup | toInt | toStr | sum | min | max | all | isNone | isNotNone | isInst (k : Kd) | count
inductive P2 where
 | add | sub | mul | fdiv | mod | pow
 | eq | ne | lt | le | gt | ge | isIn | notIn
 | index | min | max | join | split | partition | startswith | count
noncomputable def yr (U : Sto) : V -> Option (List V)
 | .tup xs => some xs
 | .lst xs => some xs
 | .ref n => match U[n]? with
  | some (.list xs) => some xs
  | _ => none
 | _ => none
noncomputable def xT : Option O -> Option (List V)
 | some (.list xs) => some xs
 | _ => none
noncomputable def listOf? (U : Sto) : V -> Option (List V)
 | .lst xs => some xs
 | .ref n => xT U[n]?
 | _ => none
noncomputable def intOf? : V -> Option Int
 | .int i => some i
 | _ => none
noncomputable def strOf? : V -> Option Str
 | .str s => some s
 | _ => none
noncomputable def boolOf? : V -> Option Bool
 | .bool b => some b
 | _ => none
noncomputable def ints? (xs : List V) : Option (List Int) := xs.mapM intOf?
noncomputable def strs? (xs : List V) : Option (List Str) := xs.mapM strOf?
noncomputable def bools? (xs : List V) : Option (List Bool) := xs.mapM boolOf?
noncomputable def truthy (U : Sto) : V -> Option Bool
 | .none => some false
 | .bool b => some b
 | .int i => some (i != 0)
 | .str s => some (s.length != 0)
 | .tup xs => some (!xs.isEmpty)
 | .lst xs => some (!xs.isEmpty)
 | .ref n => match U[n]? with
  | some (.list xs) => some (!xs.isEmpty)
  | _ => none
 | _ => none
noncomputable def LIM : Nat := 1048576
noncomputable def zCr (g : V -> Option PyData) : Option O -> Option PyData
 | some (.list xs) => (xs.mapM g).map .list
 | _ => none
noncomputable def xU (U : Sto) : Nat -> V -> Option PyData
 | 0, _ => none
 | d + 1, v => match v with
  | .none => some .none
  | .bool b => some (.bool b)
  | .int i => some (.int i)
  | .str s => some (.str s)
  | .tup xs => (xs.mapM (xU U d)).map .tuple
  | .lst xs => (xs.mapM (xU U d)).map .list
  | .ref n => zCr (xU U d) U[n]?
  | _ => none
noncomputable def wO : Nat := 8
noncomputable def eqV (U : Sto) (a b : V) : Option Bool :=
 match listOf? U a, listOf? U b with
 | some xs, some ys => if xs.length != ys.length then some false else eqD a b
 | _, _ => eqD a b
where
 eqD (a b : V) : Option Bool := (xU U wO a).bind fun x => (xU U wO b).map fun y => PyData.eqv x y
noncomputable def mkS (l : List Nat) : Str := ⟨l.toArray⟩
noncomputable def zz (s : Str) : List Nat := s.cps.toList
noncomputable def partsTable : List (Str × Int) := [("order", 2), ("deliver", 4), ("back", 4), ("swap", 4), ("credit", 4), ("pay", 3), ("refund", 3), ("move", 4)]
noncomputable def zk (a : Int) : Bool := a.natAbs < 2 ^ 64
noncomputable def zd (n : Nat) (i : Int) : Option Nat :=
 if 0 <= i then (if i.toNat < n then some i.toNat else none)
 else if 0 <= i + n then some (i + n).toNat else none
noncomputable def zV (n : Nat) : Option Int -> Nat
 | none => 0
 | some i => if i < 0 then (i + n).toNat else min i.toNat n
noncomputable def yc (n : Nat) : Option Int -> Nat
 | none => n
 | some i => if i < 0 then (i + n).toNat else min i.toNat n
noncomputable def yR {α : Type} (xs : List α) (lo hi : Option Int) : List α :=
 (xs.take (yc xs.length hi)).drop (zV xs.length lo)
noncomputable def zQH : List Int -> Option Int
 | [] => none
 | x :: xs => some (xs.foldl (fun m y => if y < m then y else m) x)
noncomputable def zQG : List Int -> Option Int
 | [] => none
 | x :: xs => some (xs.foldl (fun m y => if y > m then y else m) x)
noncomputable def zIz : Option O -> Kd -> Option Bool
 | some (.list _), k => (match k with
  | .list => some true
  | .tuple => some false
  | .str => some false
  | .int => some false
  | _ => none)
 | _, _ => none
noncomputable def jP (U : Sto) (k : Kd) : V -> Option Bool
 | .undef => none
 | .parts => none
 | .none => (match k with | .exc _ => none | _ => some false)
 | .int _ => (match k with | .int => some true | .exc _ => none | _ => some false)
 | .bool _ => (match k with | .int => some true | .bool => some true | .exc _ => none | _ => some false)
 | .str _ => (match k with | .str => some true | .exc _ => none | _ => some false)
 | .tup _ => (match k with | .tuple => some true | .exc _ => none | _ => some false)
 | .lst _ => (match k with | .list => some true | .exc _ => none | _ => some false)
 | .exc c => (match k with | .exc d => some (c.sub d) | _ => none)
 | .ref n => zIz U[n]? k
noncomputable def ev1 (o : P1) (U : Sto) (a : V) : Option V :=
 match o with
 | .not => (truthy U a).map fun b => .bool !b
 | .neg => match a with | .int i => some (.int (-i)) | _ => none
 | .abs => match a with | .int i => some (.int i.natAbs) | _ => none
 | .len => match a with
  | .str s => some (.int s.length)
  | .ref n => match U[n]? with
   | some (.list xs) => some (.int xs.length)
   | _ => none
  | a => (yr U a).map fun xs => .int xs.length
 | .toList => (yr U a).map .lst
 | .toTup => (listOf? U a).map .tup
 | .toInt => match a with
  | .bool b => some (.int (if b then 1 else 0))
  | .int i => some (.int i)
  | .str x => if x.length <= 640 then (intText? x).map .int else none
  | _ => none
 | .toStr => match a with | .int i => if 0 <= i /\ i < 10 ^ 100 then some (.str (Str.ofString (toString i))) else none | _ => none
 | .sum => (listOf? U a).bind fun xs => (ints? xs).map fun l => .int l.sum
 | .min => (listOf? U a).bind fun xs => (ints? xs).bind fun l => (zQH l).map .int
 | .max => (listOf? U a).bind fun xs => (ints? xs).bind fun l => (zQG l).map .int
 | .all => (listOf? U a).bind fun xs => (bools? xs).map fun l => .bool (l.all id)
 | .isNone => match a with | .undef => none | .none => some (.bool true) | _ => some (.bool false)
 | .isNotNone => match a with | .undef => none | .none => some (.bool false) | _ => some (.bool true)
 | .isInst k => (jP U k a).map .bool
 | .count => (listOf? U a).bind fun xs => (bools? xs).map fun l => .int (l.count true)
noncomputable def inV (U : Sto) (a b : V) : Option Bool :=
 match a, b with
 | .str x, .str y => match zz x with
  | [c] => some ((zz y).contains c)
  | _ => none
 | .str x, .parts => some (partsTable.any fun p => p.1 == x)
 | .str x, b => (yr U b).bind fun xs => (strs? xs).map fun l => l.contains x
 | _, _ => none
noncomputable def zJ2 (U : Sto) (a b : V) : Option V := (strOf? a).bind fun sep => (listOf? U b).bind fun xs => (strs? xs).bind fun l =>
 if (l.map (·.length)).sum + l.length * sep.length <= 100000 then some (.str (Txt.join sep l)) else none
noncomputable def zOM (a b : V) : Option V := (strOf? a).bind fun s => (strOf? b).bind fun sep =>
 if (sep.length == 0) || decide (10000 < s.length) then none else some (.lst ((Txt.split s sep).map .str))
noncomputable def zPf (a b : V) : Option V := (strOf? a).bind fun s => (strOf? b).bind fun sep =>
 if (sep.length == 0) || decide (10000 < s.length) then none else some (.tup [.str (Txt.partition s sep).1, .str (Txt.partition s sep).2.1, .str (Txt.partition s sep).2.2])
noncomputable def zON (a b : V) : Option V := (strOf? a).bind fun x => (strOf? b).map fun y => .bool (Txt.startswith x y)
noncomputable def zFN (k : Bool) : V -> Bool
 | .bool b => b == k
 | _ => false
noncomputable def zNW (U : Sto) (a b : V) : Option V :=
 match b with
 | .bool k => (listOf? U a).bind fun xs => if xs.all fun x => zFN true x || zFN false x then some (.int (xs.countP (zFN k) : Nat)) else none
 | _ => none
noncomputable def ev2 (o : P2) (U : Sto) (a b : V) : Option V :=
 match o with
 | .add => match a, b with
  | .int x, .int y => some (.int (x + y))
  | .str x, .str y => if x.length + y.length <= 10000 then some (.str (x ++ y)) else none
  | .tup xs, .tup ys => if xs.length + ys.length <= LIM then some (.tup (xs ++ ys)) else none
  | a, b => (listOf? U a).bind fun xs => (listOf? U b).bind fun ys => if xs.length + ys.length <= LIM then some (.lst (xs ++ ys)) else none
 | .sub => match a, b with | .int x, .int y => some (.int (x - y)) | _, _ => none
 | .mul => (match a with
  | a => match a, b with
   | .int x, .int y => if zk x || zk y then some (.int (x * y)) else none
   | _, _ => none)
 | .fdiv => match a, b with | .int x, .int y => if y == 0 || 1073741824 <= y.natAbs then none else some (.int (x.fdiv y)) | _, _ => none
 | .mod => match a, b with | .int x, .int y => if y == 0 then none else some (.int (x.fmod y)) | _, _ => none
 | .pow => match a, b with | .int x, .int y => if x == 10 && 0 <= y && y <= 40 then some (.int (x ^ y.toNat)) else none | _, _ => none
 | .eq => (eqV U a b).map .bool
 | .ne => (eqV U a b).map fun r => .bool !r
 | .lt => match a, b with | .int x, .int y => some (.bool (x < y)) | _, _ => none
 | .le => match a, b with | .int x, .int y => some (.bool (x <= y)) | _, _ => none
 | .gt => match a, b with | .int x, .int y => some (.bool (x > y)) | _, _ => none
 | .ge => match a, b with | .int x, .int y => some (.bool (x >= y)) | _, _ => none
 | .isIn => (inV U a b).map .bool
 | .notIn => (inV U a b).map fun r => .bool !r
 | .index => match a, b with
  | .str s, .int i => (zd s.length i).bind fun k => (zz s)[k]?.map fun c => .str (mkS [c])
  | .parts, .str x => (partsTable.find? fun p => p.1 == x).map fun p => .int p.2
  | .ref n, .int i => match U[n]? with
   | some (.list xs) => (zd xs.length i).bind fun k => xs[k]?
   | some (.dict es) => (es.find? fun p => p.1 == i).map fun p => p.2
   | _ => none
  | a, .int i => (yr U a).bind fun xs => (zd xs.length i).bind fun k => xs[k]?
  | _, _ => none
 | .min => match a, b with | .int x, .int y => some (.int (if y < x then y else x)) | _, _ => none
 | .max => match a, b with | .int x, .int y => some (.int (if y > x then y else x)) | _, _ => none
 | .join => zJ2 U a b
 | .split => zOM a b
 | .partition => zPf a b
 | .count => zNW U a b
 | .startswith => zON a b
noncomputable def wp (U : Sto) (a : V) (lo hi : Option Int) : Option V :=
 match a with
 | .tup xs => some (.tup (yR xs lo hi))
 | a => (listOf? U a).map fun xs => .lst (yR xs lo hi)
inductive SK where
 | val | range1 | range2
 deriving DecidableEq
inductive CE where
 | lit (v : V)
 | var (i : Nat)
 | p1 (o : P1) (a : CE)
 | p2 (o : P2) (a b : CE)
 | chain (a : CE) (ops : List P2) (es : List CE)
 | slice (a : CE) (lo hi : Option CE)
 | and (a b : CE)
 | or (a b : CE)
 | tup (es : List CE)
 | list (es : List CE)
 | dict0
 | dict1 (k v : CE)
 | comp (elt : CE) (k : SK) (src : List CE) (cond : Option CE)
 | call (f : Nat) (args : List CE)
 | callm (f : Nat) (o : CE) (args : List CE)
 | new
 | attr (e : CE) (a : Nat)
 | append (l x : CE)
 | sm (o : P2) (a b : CE)
 | pop (l : CE)
 | clear (l : CE)
 | trk (e : CE)
inductive TK where
 | ret
 | asg (i : Nat)
 | exp
structure Hd where
 cls : Cls
 as : Option Nat
 tk : TK
 e : CE
inductive CS where
 | asg (i : Nat) (e : CE)
 | setItem (o i v : CE)
 | setAttr (o : CE) (a : Nat) (v : CE)
 | unpack3 (i j k : Nat) (e : CE)
 | ite (c : CE) (a b : List CS)
 | for (i : Nat) (k : SK) (src : List CE) (body : List CS)
 | while (c : CE) (body : List CS)
 | ret (e : CE)
 | exp (e : CE)
 | raise (c : Cls)
 | try (k : TK) (e : CE) (hs : List Hd)
 | pass
 | stuck
inductive Fl where
 | next (J : List V)
 | ret (v : V)
structure Fn where
 params : Nat
 slots : Nat
 body : List CS
noncomputable def zI (J : List V) (i : Nat) : Option V :=
 match J[i]? with
 | none | some .undef => none
 | some v => some v
noncomputable def za (lo hi : Int) : List V := (List.range (hi - lo).toNat).map fun (k : Nat) => V.int (lo + (k : Int))
inductive Items where
 | now (xs : List V)
 | live (n : Nat)
 | keys (n : Nat) (ks : List Int)
noncomputable def xp (x : Str) : List V := (zz x).map fun c => .str (mkS [c])
noncomputable def jv (n : Nat) : Option O -> Option Items
 | some (.list _) => some (.live n)
 | _ => none
noncomputable def zKy (U : Sto) : V -> Option Items
 | .tup xs => some (.now xs)
 | .lst xs => some (.now xs)
 | .ref n => jv n U[n]?
 | .str x => if x.cps.all (· < 128) then some (.now (xp x)) else none
 | _ => none
noncomputable def zNq (g : Int -> Option Items) : V -> Option Items
 | .int i => g i
 | _ => none
noncomputable def zT (U : Sto) (k : SK) : List V -> Option Items
 | [] => none
 | [v] => (match k with
  | .range1 => zNq (fun n => if n.natAbs <= LIM then some (.now (za 0 n)) else none) v
  | .val => zKy U v
  | .range2 => none)
 | [v, w] => (match k with
  | .range2 => zNq (fun a => zNq (fun b => if 0 <= a && a <= LIM && b.natAbs <= LIM then some (.now (za a b)) else none) w) v
  | _ => none)
 | _ => none
noncomputable def yA (U : Sto) (it : Items) (i : Nat) : Option (Option V) :=
 match it with
 | .now xs => some xs[i]?
 | .live n => match U[n]? with
  | some (.list xs) => some xs[i]?
  | _ => none
 | .keys n ks => match U[n]? with
  | some (.dict es) => if es.map (·.1) = ks then some (ks[i]?.map .int) else none
  | _ => none
noncomputable def zAF (U : Sto) (it : Items) : Nat :=
 match it with
 | .now xs => xs.length + 1
 | .live n => match U[n]? with
  | some (.list xs) => xs.length + 1
  | _ => 0
 | .keys _ ks => ks.length + 1
noncomputable def yw {β : Type} (it : Items) (f : V -> β -> Sto -> R β) : Nat -> Nat -> β -> Sto -> R β
 | 0, _, _, _ => .stuck
 | fuel + 1, i, b, U => match yA U it i with
  | none => .stuck
  | some none => .ok b U
  | some (some x) => (f x b U).bind fun b U => yw it f fuel (i + 1) b U
noncomputable def zn {β : Type} (it : Items) (f : V -> β -> Sto -> R β) (b : β) (U : Sto) : R β := yw it f (zAF U it) 0 b U
noncomputable def R.calm {α : Type} : R α -> R α
 | .ok a U => .ok a U
 | _ => .stuck
noncomputable abbrev R.calmE {α : Type} (r : R α) : R α := r.calm
noncomputable def isInst (U : Sto) : V -> Bool
 | .ref n => match U[n]? with
  | some (.inst _) => true
  | _ => false
 | _ => false
noncomputable def kP (U : Sto) (v : V) : Bool := (listOf? U v).isSome
noncomputable def xy (es : List (Int × V)) (k : Int) (v : V) : List (Int × V) :=
 if es.any (fun p => p.1 == k) then es.map fun p => if p.1 == k then (k, v) else p else es ++ [(k, v)]
noncomputable def zAg (U : Sto) (n : Nat) (k : Int) (v : V) : Option O -> R Unit
 | some (.list xs) => if 0 <= k /\ k.toNat < xs.length then .ok () (U.set n (.list (xs.set k.toNat v))) else .stuck
 | some (.dict es) => if es.length < LIM then .ok () (U.set n (.dict (xy es k v))) else .stuck
 | _ => .stuck
noncomputable def xI (U : Sto) (o i v : V) : R Unit :=
 match o, i with
 | .ref n, .int k => zAg U n k v U[n]?
 | _, _ => .stuck
noncomputable def kG (U : Sto) (n a : Nat) (v : V) : Option O -> R Unit
 | some (.inst es) => if a < 2 then .ok () (U.set n (.inst ((a, v) :: es))) else .stuck
 | _ => .stuck
noncomputable def kO (U : Sto) (o : V) (a : Nat) (v : V) : R Unit :=
 match o with
 | .ref n => kG U n a v U[n]?
 | _ => .stuck
noncomputable def zFy (a : Nat) : Option O -> Option V
 | some (.inst es) => es.lookup a
 | _ => none
noncomputable def zBM (U : Sto) (o : V) (a : Nat) : Option V :=
 match o with
 | .ref n => zFy a U[n]?
 | _ => none
noncomputable def wY (U : Sto) (o x : V) : R V :=
 match o with
 | .ref n => match U[n]? with
  | some (.list xs) => if xs.length < LIM then .ok .none (U.set n (.list (xs ++ [x]))) else .stuck
  | _ => .stuck
 | _ => .stuck
noncomputable def zMP (U : Sto) (o : V) : R V :=
 match o with
 | .ref n => match U[n]? with
  | some (.list xs) => match xs[xs.length - 1]? with
   | some x => .ok x (U.set n (.list (xs.eraseIdx (xs.length - 1))))
   | none => .stuck
  | _ => .stuck
 | _ => .stuck
noncomputable def zC6 (U : Sto) (o : V) : R V :=
 match o with
 | .ref n => match U[n]? with
  | some (.list _) => .ok .none (U.set n (.list []))
  | _ => .stuck
 | _ => .stuck
noncomputable def zDy (U : Sto) : V -> R V
 | .lst xs => .ok (.ref U.length) (U ++ [.list xs])
 | _ => .stuck
noncomputable def zC5 (n : Nat) (U : Sto) (k : Int) (v : V) : Option O -> R V
 | some (.dict []) => .ok (.ref n) (U.set n (.dict [(k, v)]))
 | _ => .stuck
noncomputable def zC7 (n : Nat) (U : Sto) (k v : V) : R V :=
 match k with
 | .int k => zC5 n U k v U[n]?
 | _ => .stuck
noncomputable def zBX (n : Nat) : V -> Sto -> R V
 | .none, U => .ok (.ref n) U
 | _, _ => .stuck
noncomputable abbrev Calls := Nat -> List V -> Sto -> R V
noncomputable def zFh (o : P2) (U : Sto) (a : V) : Bool :=
 match o with
 | .count => (listOf? U a).isSome
 | _ => (strOf? a).isSome
noncomputable def kg : P1 -> Bool
 | .sum | .min | .max | .all => true
 | _ => false
noncomputable def wb : P2 -> Bool
 | .min | .max | .join => true
 | _ => false
mutual
noncomputable def evE (F : Calls) (q : Bool) : CE -> List V -> Sto -> R V
 | .lit v, _, U => .ok v U
 | .var i, J, U => R.lift U (zI J i)
 | .p1 o a, J, U => if kg o && q then .stuck else (evE F q a J U).bind fun a U => R.lift U (ev1 o U a)
 | .p2 o a b, J, U => if wb o && q then .stuck else (evE F q a J U).bind fun a U => (evE F q b J U).bind fun b U => R.lift U (ev2 o U a b)
 | .chain a ops es, J, U => (evE F q a J U).bind fun a U => evChain F q ops es a J U
 | .slice a lo hi, J, U => (evE F q a J U).bind fun a U => (evO F q lo J U).bind fun lo U => (evO F q hi J U).bind fun hi U => R.lift U (wp U a lo hi)
 | .and a b, J, U => (evE F q a J U).bind fun a U => (R.lift U (truthy U a)).bind fun t U => if t then evE F q b J U else .ok a U
 | .or a b, J, U => (evE F q a J U).bind fun a U => (R.lift U (truthy U a)).bind fun t U => if t then .ok a U else evE F q b J U
 | .tup es, J, U => (evL F q es J U).bind fun vs U => .ok (.tup vs) U
 | .list es, J, U => (evL F q es J U).bind fun vs U => .ok (.lst vs) U
 | .dict0, _, U => .ok (.ref U.length) (U ++ [.dict []])
 | .dict1 k v, J, U => (evE F q k J (U ++ [.dict []])).bind fun a U1 => (evE F q v J U1).bind fun b U2 => zC7 U.length U2 a b
 | .comp elt k src cond, J, U => if q then .stuck else (evL F q src J U).bind fun vs U => (R.lift U (zT U k vs)).bind fun it U =>
   (zn it (fun x acc U => (evC F q cond (J ++ [x]) U).calm.bind fun t U => if t then (evE F q elt (J ++ [x]) U).calmE.bind fun y U => (if acc.length < LIM then .ok (acc ++ [y]) U else .stuck) else .ok acc U) [] U).bind fun acc U => .ok (.lst acc) U
 | .call f args, J, U => (evL F q args J U).bind fun vs U => F f vs U
 | .callm f o args, J, U => (evE F q o J U).bind fun o U => if isInst U o then (evL F q args J U).bind fun vs U => F f (o :: vs) U else .stuck
 | .new, _, U => (F 0 [.ref U.length] (U ++ [.inst []])).bind (zBX U.length)
 | .attr e a, J, U => (evE F q e J U).bind fun o U => R.lift U (zBM U o a)
 | .sm o a b, J, U => (evE F q a J U).bind fun a U => if zFh o U a then (evE F q b J U).bind fun b U => R.lift U (ev2 o U a b) else .stuck
 | .append l x, J, U => (evE F q l J U).bind fun o U => if kP U o then (evE F q x J U).bind fun x U => wY U o x else .stuck
 | .pop l, J, U => (evE F q l J U).bind fun o U => zMP U o
 | .clear l, J, U => (evE F q l J U).bind fun o U => zC6 U o
 | .trk e, J, U => (evE F q e J U).bind fun v U => zDy U v
noncomputable def evL (F : Calls) (q : Bool) : List CE -> List V -> Sto -> R (List V)
 | [], _, U => .ok [] U
 | e :: es, J, U => (evE F q e J U).bind fun v U => (evL F q es J U).bind fun vs U => .ok (v :: vs) U
noncomputable def evO (F : Calls) (q : Bool) : Option CE -> List V -> Sto -> R (Option Int)
 | none, _, U => .ok none U
 | some e, J, U => (evE F q e J U).bind fun v U => match v with
  | .int i => .ok (some i) U
  | _ => .stuck
noncomputable def evC (F : Calls) (q : Bool) : Option CE -> List V -> Sto -> R Bool
 | none, _, U => .ok true U
 | some e, J, U => (evE F q e J U).bind fun v U => R.lift U (truthy U v)
noncomputable def evChain (F : Calls) (q : Bool) : List P2 -> List CE -> V -> List V -> Sto -> R V
 | [op], [e], a, J, U => if wb op && q then .stuck else (evE F q e J U).bind fun b U => R.lift U (ev2 op U a b)
 | op :: ops, e :: es, a, J, U => if wb op && q then .stuck else (evE F q e J U).bind fun b U => (R.lift U (ev2 op U a b)).bind fun c U => (R.lift U (truthy U c)).bind fun t U => if t then evChain F q ops es b J U else .ok c U
 | _, _, _, _, _ => .stuck
end
noncomputable def wK (c : List V -> Sto -> R Bool) (b : List V -> Sto -> R Fl) : Nat -> List V -> Sto -> R Fl
 | 0, _, _ => .stuck
 | n + 1, J, U => (c J U).bind fun t U => if t then (b J U).bind fun fl U => match fl with
   | .next J => wK c b n J U
   | .ret v => .ok (.ret v) U
  else .ok (.next J) U
noncomputable def yy (it : Items) (f : V -> List V -> Sto -> R Fl) : Nat -> Nat -> List V -> Sto -> R Fl
 | 0, _, _, _ => .stuck
 | fuel + 1, i, J, U => match yA U it i with
  | none => .stuck
  | some none => .ok (.next J) U
  | some (some x) => (f x J U).bind fun fl U => match fl with
   | .next J => yy it f fuel (i + 1) J U
   | .ret v => .ok (.ret v) U
noncomputable def yZ (it : Items) (f : V -> List V -> Sto -> R Fl) (J : List V) (U : Sto) : R Fl := yy it f (zAF U it) 0 J U
noncomputable def R.orElse {α β : Type} (r : R α) (f : α -> Sto -> R β) (g : Cls -> Sto -> R β) : R β :=
 match r with
 | .ok a U => f a U
 | .exc c U => g c U
 | .stuck => .stuck
noncomputable def zFm (k : TK) (v : V) (J : List V) : Fl :=
 match k with
 | .ret => .ret v
 | .asg i => .next (J.set i v)
 | .exp => .next J
noncomputable def Fl.unset (i : Nat) : Fl -> Fl
 | .next J => .next (J.set i .undef)
 | .ret v => .ret v
noncomputable def zB4 (as : Option Nat) (c : Cls) (J : List V) : List V :=
 match as with
 | none => J
 | some i => J.set i (.exc c)
noncomputable def zMe (as : Option Nat) (fl : Fl) : Fl :=
 match as with
 | none => fl
 | some i => fl.unset i
noncomputable def exH (Fq : Calls) : List Hd -> List V -> Cls -> Sto -> R Fl
 | [], _, _, _ => .stuck
 | h :: hs, J, c, U => if c.sub h.cls then ((evE Fq true h.e (zB4 h.as c J) U).calm.bind fun v U => .ok (zMe h.as (zFm h.tk v (zB4 h.as c J))) U) else exH Fq hs J c U
noncomputable def zBn : Nat := 100000
mutual
noncomputable def exS (F Fq : Calls) (q : Bool) : CS -> List V -> Sto -> R Fl
 | .asg i e, J, U => (evE F q e J U).bind fun v U => .ok (.next (J.set i v)) U
 | .setItem o i v, J, U => (evE F q v J U).bind fun v U => (evE F q o J U).bind fun o U => (evE F q i J U).bind fun i U => (xI U o i v).bind fun _ U => .ok (.next J) U
 | .setAttr o a v, J, U => (evE F q v J U).bind fun v U => (evE F q o J U).bind fun o U => (kO U o a v).bind fun _ U => .ok (.next J) U
 | .unpack3 i j k e, J, U => if q then .stuck else (evE F q e J U).bind fun v U => match v with
  | .tup [x, y, z] => .ok (.next (((J.set i x).set j y).set k z)) U
  | _ => .stuck
 | .ite c a b, J, U => (evE F q c J U).bind fun v U => (R.lift U (truthy U v)).bind fun t U => if t then exL F Fq q a J U else exL F Fq q b J U
 | .for i k src body, J, U => if q then .stuck else (evL F q src J U).bind fun vs U => (R.lift U (zT U k vs)).bind fun it U =>
   yZ it (fun x J U => exL F Fq q body (J.set i x) U) J U
 | .while c body, J, U => if q then .stuck else wK (fun J U => ((evE F q c J U).bind fun v U => R.lift U (truthy U v)).calm) (fun J U => (exL F Fq q body J U).calm) zBn J U
 | .ret e, J, U => (evE F q e J U).bind fun v U => .ok (.ret v) U
 | .exp e, J, U => (evE F q e J U).bind fun _ U => .ok (.next J) U
 | .raise c, _, U => if q then .stuck else .exc c U
 | .try k e hs, J, U => if q then .stuck else (evE F q e J U).orElse (fun v U => .ok (zFm k v J) U) (exH Fq hs J)
 | .pass, J, U => .ok (.next J) U
 | .stuck, _, _ => .stuck
noncomputable def exL (F Fq : Calls) (q : Bool) : List CS -> List V -> Sto -> R Fl
 | [], J, U => .ok (.next J) U
 | s :: ss, J, U => (exS F Fq q s J U).bind fun fl U => match fl with
  | .next J => exL F Fq q ss J U
  | .ret v => .ok (.ret v) U
end
noncomputable def zB0 : Fl -> Sto -> R V
 | .ret v, U => .ok v U
 | .next _, U => .ok .none U
noncomputable def zA (T : Nat -> Option Fn) : Nat -> Bool -> Calls
 | 0, _, _, _, _ => .stuck
 | d + 1, q, f, args, U => match T f with
  | none => .stuck
  | some fn => if args.length = fn.params then
    (exL (zA T d q) (zA T d true) q fn.body (args ++ List.replicate (fn.slots - fn.params) .undef) U).bind zB0
   else .stuck
end Mine
end

section
namespace Mine
theorem zB {α : Type} {x : α} {P : Prop} (h : none = some x) : P := nomatch h
theorem zF {P : Prop} (h : false = true) : P := nomatch h
open PySem
structure Ctx where
 fns : List (Str × Nat)
 meths : List (Str × Nat)
 consts : List (Str × V)
 excs : List (Str × Cls)
 attrs : List (Str × Nat)
 book : Bool
 trks : List (Nat × Nat × Nat)
noncomputable def kindNames : List (Str × Kd) := [("int", .int), ("bool", .bool), ("str", .str), ("list", .list), ("tuple", .tuple)
 , ("ValueError", .exc .ValueError)
 ]
noncomputable def kindOf? (C : Ctx) (x : Str) : Option Kd := if (C.fns.lookup x).isSome then none else kindNames.lookup x
noncomputable def attrNames : List (Str × Nat) := [("entries", 0), ("history", 1)]
noncomputable def zr (x : Str) : List Str -> Option Nat
 | [] => none
 | y :: ys => match zr x ys with
  | some i => some (i + 1)
  | none => if y == x then some 0 else none
noncomputable def zAn (sc : Scope) (x : Str) : Bool := match sc.names.lookup x with
 | some .local | some .cell | some .free => true
 | _ => false
noncomputable def isGlob (sc : Scope) (x : Str) : Bool := sc.names.lookup x == some .globalImplicit
noncomputable def wN : CmpOp -> Option P2
 | .Eq => some .eq | .NotEq => some .ne | .Lt => some .lt | .LtE => some .le | .Gt => some .gt | .GtE => some .ge
 | .In => some .isIn | .NotIn => some .notIn | _ => none
noncomputable def zBv : Operator -> Option P2
 | .Add => some .add | .Sub => some .sub | .Mult => some .mul | .FloorDiv => some .fdiv | .Mod => some .mod
 | .Pow => some .pow
 | _ => none
noncomputable def b1Names : List (Str × P1) := [("len", .len),
 ("int", .toInt),
 ("all", .all), ("list", .toList), ("tuple", .toTup), ("sum", .sum)]
noncomputable def b2Names : List (Str × P2) := [("min", .min), ("max", .max)]
noncomputable def m1Names : List (Str × P2) := [("join", .join)
 ]
noncomputable def vE (C : Ctx) (p : Pos) (e : CE) : CE := if C.trks.contains (p.line, p.col, p.endCol) then .trk e else e
noncomputable def vI (isAnd : Bool) : List CE -> Option CE
 | [] => none
 | [e] => some e
 | e :: es => (vI isAnd es).map fun r => if isAnd then .and e r else .or e r
noncomputable def zF5 (C : Ctx) (H : List Str) (sc : Scope) (x : Str) : Option CE :=
 if x == ("__debug__" : Str) || x == ("__classdict__" : Str) then none else if zAn sc x then (zr x H).map .var else if isGlob sc x then (C.consts.lookup x).map .lit else none
noncomputable def zNZ : Str := ".0"
noncomputable def zE7 (H : List Str) (sc scope : Scope) (x : Str) : Bool :=
 scope.kind == .function && scope.names.lookup x == some .local && !H.contains zNZ && x != zNZ &&
  scope.names.all fun p => match p.2 with
   | .cell => false
   | .local => (p.1 == x || p.1 == zNZ) && scope.names.lookup p.1 == some .local
   | .free => sc.names.lookup p.1 == some .cell || sc.names.lookup p.1 == some .free
   | _ => true
inductive EV where
 | non
 | str (s : Str)
 | name (x : Str)
 | call (f : Expr) (a : List Expr) (k : List Keyword)
 | slice (lo hi : Option Expr)
 | attr (o : Expr) (m : Str) (p : Pos)
 | sub (o i : Expr)
 | star
 | lcomp
 | other
noncomputable def yj : Expr -> EV
 | .Constant .none _ _ => .non
 | .Constant (.str s) _ _ => .str s
 | .Name x _ => .name x
 | .Call f a k _ => .call f a k
 | .Slice lo hi none _ => .slice lo hi
 | .Attribute o m p => .attr o m p
 | .Subscript o i _ => .sub o i
 | .Starred .. => .star
 | .ListComp .. => .lcomp
 | _ => .other
noncomputable def zPz (e : Expr) : EV -> Prop
 | .non => ∃ k p, e = .Constant .none k p
 | .str s => ∃ k p, e = .Constant (.str s) k p
 | .name x => ∃ p, e = .Name x p
 | .call f a k => ∃ p, e = .Call f a k p
 | .slice lo hi => ∃ p, e = .Slice lo hi none p
 | .attr o m p => e = .Attribute o m p
 | .sub o i => ∃ p, e = .Subscript o i p
 | _ => True
theorem wZ (e : Expr) : zPz e (yj e) := by
 cases e with
 | Constant k n p =>
  cases k with
  | none => exact ⟨_, _, rfl⟩
  | str s => exact ⟨_, _, rfl⟩
  | _ => exact True.intro
 | Name x p => exact ⟨_, rfl⟩
 | Call f a k p => exact ⟨_, rfl⟩
 | Slice lo hi st p =>
  cases st with
  | none => exact ⟨_, rfl⟩
  | some _ => exact True.intro
 | Attribute o m p => exact (rfl : Expr.Attribute o m p = .Attribute o m p)
 | Subscript o i p => exact ⟨_, rfl⟩
 | _ => exact True.intro
noncomputable def EV.str? : EV -> Option Str
 | .str s => some s
 | _ => none
noncomputable def EV.name? : EV -> Option Str
 | .name x => some x
 | _ => none
noncomputable def EV.call? : EV -> Option (Expr × List Expr × List Keyword)
 | .call f a k => some (f, a, k)
 | _ => none
noncomputable def EV.slice? : EV -> Option (Option Expr × Option Expr)
 | .slice l h => some (l, h)
 | _ => none
noncomputable def EV.attr? : EV -> Option (Expr × Str × Pos)
 | .attr o m p => some (o, m, p)
 | _ => none
noncomputable def EV.sub? : EV -> Option (Expr × Expr)
 | .sub o i => some (o, i)
 | _ => none
noncomputable def EV.isStar : EV -> Bool
 | .star => true
 | _ => false
noncomputable def EV.isComp : EV -> Bool
 | .lcomp => true
 | _ => false
noncomputable def EV.noSuper : EV -> Bool
 | .call f [] [] => (yj f).name?.isNone
 | _ => true
noncomputable def isStar (e : Expr) : Bool := (yj e).isStar
noncomputable def isComp (e : Expr) : Bool := (yj e).isComp
noncomputable def noSuper (e : Expr) : Bool := (yj e).noSuper
noncomputable def nameOf? (e : Expr) : Option Str := (yj e).name?
noncomputable def callParts? (e : Expr) : Option (Expr × List Expr × List Keyword) := (yj e).call?
noncomputable def sliceParts? (e : Expr) : Option (Option Expr × Option Expr) := (yj e).slice?
noncomputable def attrParts? (e : Expr) : Option (Expr × Str × Pos) := (yj e).attr?
noncomputable def subParts? (e : Expr) : Option (Expr × Expr) := (yj e).sub?
noncomputable def strC? (e : Expr) : Option Str := (yj e).str?
theorem nameOf?_eq {e : Expr} {x : Str} (h : nameOf? e = some x) : ∃ p, e = .Name x p := by
 have hv := wZ e
 have h : (yj e).name? = some x := h
 generalize yj e = v at hv h
 cases v with
 | name => cases h; exact hv
 | _ => exact zB h
theorem callParts?_eq {e fn : Expr} {args : List Expr} {kws : List Keyword} (h : callParts? e = some (fn, args, kws)) : ∃ p, e = .Call fn args kws p := by
 have hv := wZ e
 have h : (yj e).call? = some _ := h
 generalize yj e = v at hv h
 cases v with
 | call => cases h; exact hv
 | _ => exact zB h
theorem sliceParts?_eq {e : Expr} {lo hi : Option Expr} (h : sliceParts? e = some (lo, hi)) : ∃ p, e = .Slice lo hi none p := by
 have hv := wZ e
 have h : (yj e).slice? = some _ := h
 generalize yj e = v at hv h
 cases v with
 | slice => cases h; exact hv
 | _ => exact zB h
theorem attrParts?_eq {e o : Expr} {m : Str} {p : Pos} (h : attrParts? e = some (o, m, p)) : e = .Attribute o m p := by
 have hv := wZ e
 have h : (yj e).attr? = some _ := h
 generalize yj e = v at hv h
 cases v with
 | attr => cases h; exact hv
 | _ => exact zB h
theorem subParts?_eq {e : Expr} {p : Expr × Expr} (h : subParts? e = some p) : ∃ q, e = .Subscript p.1 p.2 q := by
 have hv := wZ e
 have h : (yj e).sub? = some _ := h
 generalize yj e = v at hv h
 cases v with
 | sub => cases h; exact hv
 | _ => exact zB h
theorem strC?_eq {e : Expr} {s : Str} (h : strC? e = some s) : ∃ k p, e = .Constant (.str s) k p := by
 have hv := wZ e
 have h : (yj e).str? = some _ := h
 generalize yj e = v at hv h
 cases v with
 | str => cases h; exact hv
 | _ => exact zB h
section
variable (C : Ctx) (rec : List Str -> Scope -> Expr -> Option CE)
noncomputable def cL (H : List Str) (sc : Scope) : List Expr -> Option (List CE)
 | [] => some []
 | e :: es => if isStar e then none else (rec H sc e).bind fun a => (cL H sc es).map fun as => a :: as
noncomputable def zNQ (H : List Str) (sc : Scope) : Option Expr -> Option (Option CE)
 | none => some none
 | some e => (rec H sc e).map some
noncomputable def cIf (H : List Str) (sc : Scope) : List Expr -> Option (Option CE)
 | [] => some none
 | [e] => (rec H sc e).map some
 | _ => none
noncomputable def zJK : Const -> Option CE
 | .none => some (.lit .none)
 | .bool b => some (.lit (.bool b))
 | .int i => some (.lit (.int i))
 | .str s => if s.length <= 1000 && PyData.strOk s then some (.lit (.str s)) else none
 | _ => none
noncomputable def zNM (H : List Str) (sc : Scope) (a : Expr) (ops : List CmpOp) (cs : List Expr) : Option CE :=
 if ops.length != cs.length then none else match cs, ops with
  | [b], [op] =>
   (wN op).bind fun o => (rec H sc a).bind fun x => (rec H sc b).map fun y => .p2 o x y
  | cs, ops => (ops.mapM wN).bind fun os => (rec H sc a).bind fun x => (cL rec H sc cs).map fun ys => .chain x os ys
noncomputable def zJQ (H : List Str) (sc : Scope) (e : Expr) : Option (SK × List CE) :=
 match callParts? e with
 | some (fn, args, kws) => (match nameOf? fn with
  | some f => if f == ("range" : Str) then (if isGlob sc f && kws.isEmpty then (cL rec H sc args).bind fun es => (match es with
    | [a] => some (.range1, [a])
    | _ => none) else none)
   else (rec H sc e).map fun a => (.val, [a])
  | none => (rec H sc e).map fun a => (.val, [a]))
 | none => (rec H sc e).map fun a => (.val, [a])
noncomputable def zDm (H : List Str) (sc : Scope) (elt : Expr) (gens : List Comprehension) (scope : Scope) : Option CE :=
 match gens with
 | [g] => (nameOf? g.target).bind fun x =>
   if g.is_async != 0 || !zE7 H sc scope x then none else (zJQ rec H sc g.iter).bind fun s => (cIf rec (H ++ [x]) scope g.ifs).bind fun c => (rec (H ++ [x]) scope elt).map fun e => .comp e s.1 s.2 c
 | _ => none
noncomputable def zNR (H : List Str) (sc : Scope) (o i : Expr) (pos : Pos) : Option CE :=
 match sliceParts? i with
 | some (lo, hi) => (rec H sc o).bind fun a => (zNQ rec H sc lo).bind fun l => (zNQ rec H sc hi).map fun h => vE C pos (.slice a l h)
 | none => (rec H sc o).bind fun a => (rec H sc i).map fun b => .p2 .index a b
noncomputable def zE4 (H : List Str) (sc : Scope) (o : Expr) (m : Str) (args : List Expr) : Option CE :=
 match args with
 | [x] => if isStar x then none else if m == ("append" : Str) then (rec H sc o).bind fun a => (rec H sc x).map fun b => .append a b
  else (m1Names.lookup m).bind fun p => (rec H sc o).bind fun a => (rec H sc x).map fun b => .sm p a b
 | [] =>
  if m == ("clear" : Str) then (rec H sc o).map .clear else
  none
 | _ => none
noncomputable def zJN (H : List Str) (sc : Scope) (o : Expr) (m : Str) (apos : Pos) (args : List Expr) (pos : Pos) : Option CE :=
 if !noSuper o || apos.endLine != pos.line then none else
  match C.meths.lookup m with
  | some n => (rec H sc o).bind fun a => (cL rec H sc args).map fun es => .callm n a es
  | none =>
  zE4 rec H sc o m args
noncomputable def zAm (sc : Scope) (x : Str) : Option Cls := if isGlob sc x && x != ("__debug__" : Str) && x != ("ValueError" : Str) then C.excs.lookup x else none
noncomputable def zF4 (H : List Str) (sc : Scope) (args : List Expr) : Option CE :=
 match args with
 | [x, k] => if isStar x then none else (nameOf? k).bind fun kn => if isGlob sc kn then (match kindOf? C kn with
  | some kd => (rec H sc x).map fun a => .p1 (.isInst kd) a
  | none => none) else none
 | _ => none
noncomputable def zNO (H : List Str) (sc : Scope) (f : Str) (args : List Expr) (pos : Pos) : Option CE :=
 if !isGlob sc f then none
 else if f == ("isinstance" : Str) then zF4 C rec H sc args
 else (cL rec H sc args).bind fun es => match C.fns.lookup f with
  | some n => some (.call n es)
  | none =>
   if C.book && f == ("Book" : Str) then (if es.isEmpty then some .new else none) else
   (match es with
   | [a] => (b1Names.lookup f).map fun o => if f == ("list" : Str) then vE C pos (.p1 o a) else .p1 o a
   | [a, b] => (b2Names.lookup f).map fun o => .p2 o a b
   | _ => none)
noncomputable def zJI (H : List Str) (sc : Scope) (fn : Expr) (args : List Expr) (kws : List Keyword) (pos : Pos) : Option CE :=
 if !kws.isEmpty || 20 < args.length then none else match attrParts? fn with
  | some (o, m, apos) => zJN C rec H sc o m apos args pos
  | none => (nameOf? fn).bind fun f => zNO C rec H sc f args pos
noncomputable def zNN (H : List Str) (sc : Scope) (v : Expr) : Option Expr -> Option CE
 | some k => (rec H sc k).bind fun a => (rec H sc v).map fun b => .dict1 a b
 | none => none
noncomputable def zMM (H : List Str) (sc : Scope) (ks : List (Option Expr)) : List Expr -> Option CE
 | [] => if ks.isEmpty then some .dict0 else none
 | v :: vs => if vs.isEmpty then (match ks with
  | [k] => zNN rec H sc v k
  | _ => none) else none
noncomputable def zMn (H : List Str) (sc : Scope) : Expr -> Option CE
 | .Constant k _ _ => zJK k
 | .Name x _ => zF5 C H sc x
 | .BoolOp op vs _ => (cL rec H sc vs).bind fun es => vI (op == .And) es
 | .BinOp l op r pos => (zBv op).bind fun o => (rec H sc l).bind fun a => (rec H sc r).map fun b => vE C pos (.p2 o a b)
 | .UnaryOp .Not x _ => (rec H sc x).map (.p1 .not)
 | .UnaryOp .USub x _ => (rec H sc x).map (.p1 .neg)
 | .Compare a ops cs _ => zNM rec H sc a ops cs
 | .List es pos => if es.length <= 1000 then (cL rec H sc es).map fun es => vE C pos (.list es) else none
 | .Tuple es _ _ => if es.length <= 1000 then (cL rec H sc es).map .tup else none
 | .ListComp elt gens scope pos => (zDm rec H sc elt gens scope).map fun e => vE C pos e
 | .Subscript o i pos => zNR C rec H sc o i pos
 | .Call fn args kws pos => zJI C rec H sc fn args kws pos
 | .Attribute o m _ => (C.attrs.lookup m).bind fun k => if noSuper o then (rec H sc o).map fun a => .attr a k else none
 | .Dict ks vs _ => zMM rec H sc ks vs
 | _ => none
end
noncomputable def cE (C : Ctx) : Nat -> List Str -> Scope -> Expr -> Option CE
 | 0 => fun _ _ _ => none
 | n + 1 => zMn C (cE C n)
noncomputable def xf : Nat := 30
noncomputable def yp (H : List Str) (sc : Scope) (x : Str) : Option Nat := if sc.names.lookup x == some .local || sc.names.lookup x == some .cell then zr x H else none
section
variable (C : Ctx) (H : List Str) (sc : Scope) (rec : Stmt -> CS)
noncomputable def zML (t e : Expr) : Option CS :=
 match attrParts? t with
 | some p => (C.attrs.lookup p.2.1).bind fun k => if isComp e then none else (cE C xf H sc e).bind fun v => (cE C xf H sc p.1).map fun b => .setAttr b k v
 | none => none
noncomputable def zNL (t e : Expr) : Option CS :=
 match nameOf? t with
 | some x => (yp H sc x).bind fun i => (cE C xf H sc e).map (.asg i)
 | none => (match subParts? t with
  | some p => if isComp e then none else (cE C xf H sc e).bind fun v => (cE C xf H sc p.1).bind fun a => (cE C xf H sc p.2).map fun b => .setItem a b v
  | none => zML C H sc t e)
noncomputable def zQA : Option Expr -> Option (TK × CE)
 | some e => (cE C xf H sc e).map fun c => (.ret, c)
 | none => none
noncomputable def zP9 (e : Expr) : List Expr -> Option (TK × CE)
 | [t] => if isComp e then none else (nameOf? t).bind fun x => (yp H sc x).bind fun i => (cE C xf H sc e).map fun c => (.asg i, c)
 | _ => none
noncomputable def zO1 : Stmt -> Option (TK × CE)
 | .Return v _ => zQA C H sc v
 | .Assign ts e _ => zP9 C H sc e ts
 | .Expr e _ => if isComp e then none else (cE C xf H sc e).map fun c => (.exp, c)
 | _ => none
noncomputable def cTK : List Stmt -> Option (TK × CE)
 | [s] => zO1 C H sc s
 | _ => none
noncomputable def cAs : Option Str -> Option (Option Nat)
 | none => some none
 | some n => if sc.names.lookup n == some .local then (yp H sc n).map some else none
noncomputable def cHd : ExceptHandler -> Option Hd
 | .ExceptHandler (some t) n body _ => (nameOf? t).bind fun x => (zAm C sc x).bind fun k => (cAs H sc n).bind fun as => (cTK C H sc body).map fun p => ⟨k, as, p.1, p.2⟩
 | _ => none
noncomputable def zJM : List ExceptHandler -> Option (List Hd)
 | [] => some []
 | h :: hs => (cHd C H sc h).bind fun a => (zJM hs).map fun as => a :: as
noncomputable def zLX (fn : Expr) (kws : List Keyword) : List Expr -> Option CS
 | [x] => if kws.isEmpty then (strC? x).bind fun s => (nameOf? fn).bind fun f => if s.length <= 1000 && PyData.strOk s then (zAm C sc f).map .raise else none else none
 | _ => none
noncomputable def zJP (e : Expr) : Option CS := (callParts? e).bind fun p => zLX C sc p.1 p.2.2 p.2.1
noncomputable def zGi : Stmt -> Option CS
 | .Return (some e) _ => (cE C xf H sc e).map .ret
 | .Assign [t] e _ => zNL C H sc t e
 | .If t a b _ => (cE C xf H sc t).map fun t => .ite t (a.map rec) (b.map rec)
 | .For x iter body [] _ => (nameOf? x).bind fun x => (yp H sc x).bind fun i => (zJQ (cE C xf) H sc iter).map fun s => .for i s.1 s.2 (body.map rec)
 | .While t body [] _ => (cE C xf H sc t).map fun t => .while t (body.map rec)
 | .Expr e _ => if isComp e then none else (cE C xf H sc e).map .exp
 | .Pass _ => some .pass
 | .Raise (some e) none _ => zJP C sc e
 | .Try body (h :: hs) [] [] _ => (cTK C H sc body).bind fun p => (zJM C H sc (h :: hs)).map fun hs => .try p.1 p.2 hs
 | _ => none
end
noncomputable def cS (C : Ctx) (H : List Str) (sc : Scope) : Nat -> Stmt -> CS
 | 0 => fun _ => .stuck
 | n + 1 => fun s => (zGi C H sc (cS C H sc n) s).getD .stuck
noncomputable def cSL (C : Ctx) (H : List Str) (sc : Scope) (l : List Stmt) : List CS := l.map (cS C H sc xf)
noncomputable def xz (params : List Str) (sc : Scope) : List Str :=
 params ++ (sc.names.filter fun p => (p.2 == .local || p.2 == .cell) && !params.contains p.1).map (·.1)
end Mine
end

section
namespace Mine
open PySem
section
variable (F Fq : Calls) (q : Bool) (J : List V) (U : Sto)
@[simp] theorem zAs (v : V) : evE F q (.lit v) J U = .ok v U := id rfl
@[simp] theorem zp (i : Nat) : evE F q (.var i) J U = R.lift U (zI J i) := id rfl
@[simp] theorem zLA (o : P1) (a : CE) : evE F q (.p1 o a) J U = if kg o && q then .stuck else (evE F q a J U).bind fun a U => R.lift U (ev1 o U a) := id rfl
@[simp] theorem zI5 (o : P2) (a b : CE) : evE F q (.p2 o a b) J U = if wb o && q then .stuck else (evE F q a J U).bind fun a U => (evE F q b J U).bind fun b U => R.lift U (ev2 o U a b) := id rfl
@[simp] theorem zA8 (a : CE) (ops : List P2) (es : List CE) : evE F q (.chain a ops es) J U = (evE F q a J U).bind fun a U => evChain F q ops es a J U := id rfl
@[simp] theorem zGx (a : CE) (lo hi : Option CE) : evE F q (.slice a lo hi) J U = (evE F q a J U).bind fun a U => (evO F q lo J U).bind fun lo U => (evO F q hi J U).bind fun hi U => R.lift U (wp U a lo hi) := id rfl
@[simp] theorem zGp (a b : CE) : evE F q (.and a b) J U = (evE F q a J U).bind fun a U => (R.lift U (truthy U a)).bind fun t U => if t then evE F q b J U else .ok a U := id rfl
@[simp] theorem zMI (a b : CE) : evE F q (.or a b) J U = (evE F q a J U).bind fun a U => (R.lift U (truthy U a)).bind fun t U => if t then .ok a U else evE F q b J U := id rfl
@[simp] theorem zMs (es : List CE) : evE F q (.tup es) J U = (evL F q es J U).bind fun vs U => .ok (.tup vs) U := id rfl
@[simp] theorem zK8 (es : List CE) : evE F q (.list es) J U = (evL F q es J U).bind fun vs U => .ok (.lst vs) U := id rfl
@[simp] theorem zK3 (f : Nat) (args : List CE) : evE F q (.call f args) J U = (evL F q args J U).bind fun vs U => F f vs U := id rfl
@[simp] theorem zPr (o : P2) (a b : CE) : evE F q (.sm o a b) J U = (evE F q a J U).bind fun a U => if zFh o U a then (evE F q b J U).bind fun b U => R.lift U (ev2 o U a b) else .stuck := id rfl
@[simp] theorem zEx (l x : CE) : evE F q (.append l x) J U = (evE F q l J U).bind fun o U => if kP U o then (evE F q x J U).bind fun x U => wY U o x else .stuck := id rfl
@[simp] theorem zQK (l : CE) : evE F q (.pop l) J U = (evE F q l J U).bind fun o U => zMP U o := id rfl
@[simp] theorem zGt (l : CE) : evE F q (.clear l) J U = (evE F q l J U).bind fun o U => zC6 U o := id rfl
@[simp] theorem kq (e : CE) : evE F q (.trk e) J U = (evE F q e J U).bind fun v U => zDy U v := id rfl
@[simp] theorem zMr : evL F q [] J U = .ok [] U := id rfl
@[simp] theorem zBo (e : CE) (es : List CE) : evL F q (e :: es) J U = (evE F q e J U).bind fun v U => (evL F q es J U).bind fun vs U => .ok (v :: vs) U := id rfl
@[simp] theorem zMH : evO F q none J U = .ok none U := id rfl
@[simp] theorem zDa (e : CE) : evO F q (some e) J U = (evE F q e J U).bind fun v U => match v with | .int i => .ok (some i) U | _ => .stuck := id rfl
@[simp] theorem zMD : evC F q none J U = .ok true U := id rfl
@[simp] theorem zA9 (e : CE) : evC F q (some e) J U = (evE F q e J U).bind fun v U => R.lift U (truthy U v) := id rfl
@[simp] theorem zK1 (i : Nat) (e : CE) : exS F Fq q (.asg i e) J U = (evE F q e J U).bind fun v U => .ok (.next (J.set i v)) U := id rfl
@[simp] theorem zCw (o i v : CE) : exS F Fq q (.setItem o i v) J U = (evE F q v J U).bind fun v U => (evE F q o J U).bind fun o U => (evE F q i J U).bind fun i U => (xI U o i v).bind fun _ U => .ok (.next J) U := id rfl
@[simp] theorem zEy (c : CE) (a b : List CS) : exS F Fq q (.ite c a b) J U = (evE F q c J U).bind fun v U => (R.lift U (truthy U v)).bind fun t U => if t then exL F Fq q a J U else exL F Fq q b J U := id rfl
@[simp] theorem zLB (e : CE) : exS F Fq q (.ret e) J U = (evE F q e J U).bind fun v U => .ok (.ret v) U := id rfl
@[simp] theorem zK5 (e : CE) : exS F Fq q (.exp e) J U = (evE F q e J U).bind fun _ U => .ok (.next J) U := id rfl
@[simp] theorem zOf (i j k : Nat) (e : CE) : exS F Fq q (.unpack3 i j k e) J U = if q then .stuck else (evE F q e J U).bind fun v U => match v with
  | .tup [x, y, z] => .ok (.next (((J.set i x).set j y).set k z)) U
  | _ => .stuck := id rfl
@[simp] theorem zLC (k : TK) (e : CE) (hs : List Hd) : exS F Fq q (.try k e hs) J U = if q then .stuck else (evE F q e J U).orElse (fun v U => .ok (zFm k v J) U) (exH Fq hs J) := id rfl
@[simp] theorem zOb : exS F Fq q .pass J U = .ok (.next J) U := id rfl
@[simp] theorem zOa : exL F Fq q [] J U = .ok (.next J) U := id rfl
@[simp] theorem zGw (s : CS) (ss : List CS) : exL F Fq q (s :: ss) J U = (exS F Fq q s J U).bind fun fl U => match fl with | .next J => exL F Fq q ss J U | .ret v => .ok (.ret v) U := id rfl
@[simp] theorem zK2 (e : CE) (a : Nat) : evE F q (.attr e a) J U = (evE F q e J U).bind fun o U => R.lift U (zBM U o a) := id rfl
@[simp] theorem zGq (f : Nat) (o : CE) (args : List CE) : evE F q (.callm f o args) J U = (evE F q o J U).bind fun o U => if isInst U o then (evL F q args J U).bind fun vs U => F f (o :: vs) U else .stuck := id rfl
@[simp] theorem zPq : evE F q .new J U = (F 0 [.ref U.length] (U ++ [.inst []])).bind (zBX U.length) := id rfl
@[simp] theorem zME : evE F q .dict0 J U = .ok (.ref U.length) (U ++ [.dict []]) := id rfl
@[simp] theorem zDZ (k v : CE) : evE F q (.dict1 k v) J U = (evE F q k J (U ++ [.dict []])).bind fun a U1 => (evE F q v J U1).bind fun b U2 => zC7 U.length U2 a b := id rfl
@[simp] theorem zCv (o : CE) (a : Nat) (v : CE) : exS F Fq q (.setAttr o a v) J U = (evE F q v J U).bind fun v U => (evE F q o J U).bind fun o U => (kO U o a v).bind fun _ U => .ok (.next J) U := id rfl
@[simp] theorem zPv (c : Cls) : exS F Fq q (.raise c) J U = if q then .stuck else .exc c U := id rfl
@[simp] theorem zGr (op : P2) (e : CE) (a : V) : evChain F q [op] [e] a J U = if wb op && q then .stuck else (evE F q e J U).bind fun b U => R.lift U (ev2 op U a b) := id rfl
@[simp] theorem zGs (op op' : P2) (ops : List P2) (e e' : CE) (es : List CE) (a : V) : evChain F q (op :: op' :: ops) (e :: e' :: es) a J U = if wb op && q then .stuck else (evE F q e J U).bind fun b U => (R.lift U (ev2 op U a b)).bind fun c U => (R.lift U (truthy U c)).bind fun t U => if t then evChain F q (op' :: ops) (e' :: es) b J U else .ok c U := id rfl
@[simp] theorem zK4 (elt : CE) (k : SK) (src : List CE) (cond : Option CE) : evE F q (.comp elt k src cond) J U = if q then .stuck else (evL F q src J U).bind fun vs U => (R.lift U (zT U k vs)).bind fun it U =>
   (zn it (fun x acc U => (evC F q cond (J ++ [x]) U).calm.bind fun t U => if t then (evE F q elt (J ++ [x]) U).calmE.bind fun y U => (if acc.length < LIM then .ok (acc ++ [y]) U else .stuck) else .ok acc U) [] U).bind fun acc U => .ok (.lst acc) U := id rfl
theorem zMq (i : Nat) (k : SK) (src : List CE) (body : List CS) : exS F Fq q (.for i k src body) J U = if q then .stuck else (evL F q src J U).bind fun vs U => (R.lift U (zT U k vs)).bind fun it U =>
   yZ it (fun x J U => exL F Fq q body (J.set i x) U) J U := id rfl
theorem zGu {β : Type} {it : Items} {f : V -> β -> Sto -> R β} {k i : Nat} {b : β} {U : Sto} (h : yA U it i = some none) : yw it f (k + 1) i b U = .ok b U := by
 show (match yA U it i with | none => R.stuck | some none => .ok b U | some (some x) => (f x b U).bind fun b U => yw it f k (i + 1) b U) = _
 rw [h]
theorem zGv {β : Type} {it : Items} {f : V -> β -> Sto -> R β} {k i : Nat} {b : β} {U : Sto} {x : V} (h : yA U it i = some (some x)) : yw it f (k + 1) i b U = (f x b U).bind fun b U => yw it f k (i + 1) b U := by
 show (match yA U it i with | none => R.stuck | some none => .ok b U | some (some x) => (f x b U).bind fun b U => yw it f k (i + 1) b U) = _
 rw [h]
theorem zK6 {it : Items} {f : V -> List V -> Sto -> R Fl} {k i : Nat} {J : List V} {U : Sto} (h : yA U it i = some none) : yy it f (k + 1) i J U = .ok (.next J) U := by
 show (match yA U it i with | none => R.stuck | some none => R.ok (Fl.next J) U | some (some x) => (f x J U).bind fun fl U => match fl with | Fl.next J => yy it f k (i + 1) J U | Fl.ret v => R.ok (Fl.ret v) U) = _
 rw [h]
theorem zK7 {it : Items} {f : V -> List V -> Sto -> R Fl} {k i : Nat} {J J' : List V} {U U' : Sto} {x : V} (h : yA U it i = some (some x)) (e : f x J U = .ok (.next J') U') : yy it f (k + 1) i J U = yy it f k (i + 1) J' U' := by
 show (match yA U it i with | none => R.stuck | some none => R.ok (Fl.next J) U | some (some x) => (f x J U).bind fun fl U => match fl with | Fl.next J => yy it f k (i + 1) J U | Fl.ret v => R.ok (Fl.ret v) U) = _
 rw [h]
 show R.bind (f x J U) _ = _
 rw [e]; rfl
theorem zDb (c : CE) (body : List CS) : exS F Fq q (.while c body) J U = if q then .stuck else wK (fun J U => ((evE F q c J U).bind fun v U => R.lift U (truthy U v)).calm) (fun J U => (exL F Fq q body J U).calm) zBn J U := id rfl
end
theorem zFF {it : Items} {f : V -> List V -> Sto -> R Fl} {i : Nat} {J : List V} {U : Sto} : yy it f 0 i J U = .stuck := rfl
theorem zFE {it : Items} {f : V -> List V -> Sto -> R Fl} {n i : Nat} {J : List V} {U : Sto} : yy it f (n + 1) i J U = match yA U it i with
  | none => .stuck
  | some none => .ok (.next J) U
  | some (some x) => (f x J U).bind fun fl U => match fl with
   | .next J => yy it f n (i + 1) J U
   | .ret v => .ok (.ret v) U := rfl
theorem zEB {β : Type} {it : Items} {f : V -> β -> Sto -> R β} {i : Nat} {b : β} {U : Sto} : yw it f 0 i b U = .stuck := rfl
theorem zEA {β : Type} {it : Items} {f : V -> β -> Sto -> R β} {n i : Nat} {b : β} {U : Sto} : yw it f (n + 1) i b U = match yA U it i with
  | none => .stuck
  | some none => .ok b U
  | some (some x) => (f x b U).bind fun b U => yw it f n (i + 1) b U := rfl
theorem zEw {c : List V -> Sto -> R Bool} {b : List V -> Sto -> R Fl} {J : List V} {U : Sto} : wK c b 0 J U = .stuck := rfl
theorem zEv {c : List V -> Sto -> R Bool} {b : List V -> Sto -> R Fl} {n : Nat} {J : List V} {U : Sto} : wK c b (n + 1) J U = (c J U).bind fun t U => if t then (b J U).bind fun fl U => match fl with
   | .next J => wK c b n J U
   | .ret v => .ok (.ret v) U
  else .ok (.next J) U := rfl
theorem vG {T : Nat -> Option Fn} {d : Nat} {q : Bool} {k : Nat} {vs : List V} {U : Sto} : zA T (d + 1) q k vs U = match T k with
  | none => .stuck
  | some fn => if vs.length = fn.params then
    (exL (zA T d q) (zA T d true) q fn.body (vs ++ List.replicate (fn.slots - fn.params) .undef) U).bind zB0
   else .stuck := rfl
end Mine
end

section
namespace Mine
open PySem
noncomputable def Gives (U : Sto) (it : Items) (xs : List V) : Prop := it = .now xs \/ ∃ n, it = .live n /\ U[n]? = some (.list xs)
theorem Gives.next {U : Sto} {it : Items} {xs : List V} (h : Gives U it xs) (i : Nat) : yA U it i = some xs[i]? := by
 rcases h with rfl | ⟨n, rfl, h⟩
 ·rfl
 ·simp [yA, h]
theorem Gives.fuel {U : Sto} {it : Items} {xs : List V} (h : Gives U it xs) : zAF U it = xs.length + 1 := by
 rcases h with rfl | ⟨n, rfl, h⟩
 ·rfl
 ·simp [zAF, h]
theorem zHJ {β : Type} {it : Items} {f : V -> β -> Sto -> R β} {xs : List V} {U : Sto} (g : Nat -> β) (hit : Gives U it xs)
  (h : ∀ i x, xs[i]? = some x -> f x (g i) U = .ok (g (i + 1)) U) : zn it f (g 0) U = .ok (g xs.length) U := by
 have key : ∀ k i, k + i = xs.length -> yw it f (k + 1) i (g i) U = .ok (g xs.length) U := by
  intro k
  induction k with
  | zero =>
   intro i hi
   obtain rfl : i = xs.length := (Nat.zero_add i).symm.trans hi
   exact zGu ((hit.next _).trans (by rw [List.getElem?_eq_none (Nat.le_refl _)]))
  | succ k ih =>
   intro i hi
   have hlt : i < xs.length := Nat.lt_of_lt_of_eq (Nat.lt_add_of_pos_left (Nat.succ_pos k)) hi
   rw [zGv ((hit.next _).trans (by rw [List.getElem?_eq_getElem hlt]))]
   rw [h i _ (List.getElem?_eq_getElem hlt)]
   exact ih (i + 1) ((Nat.succ_add_eq_add_succ k i).symm.trans hi)
 have := key xs.length 0 rfl
 rw [zn, hit.fuel]
 exact this
theorem R.calm_ok {α : Type} {a : α} {U : Sto} : (R.ok a U).calm = .ok a U := rfl
theorem yi {F : Calls} {elt : CE} {k : SK} {src : List CE} {cond : Option CE} {J vs : List V} {U U1 : Sto} {it : Items} {α : Type} {l : List α} {φ : α -> V}
  (p : α -> Bool) (g : α -> V) (hsrc : evL F false src J U = .ok vs U1) (hit : zT U1 k vs = some it) (hg : Gives U1 it (l.map φ)) (hl : l.length < LIM)
  (hc : ∀ x ∈ l, evC F false cond (J ++ [φ x]) U1 = .ok (p x) U1) (he : ∀ x ∈ l, p x = true -> evE F false elt (J ++ [φ x]) U1 = .ok (g x) U1) :
  evE F false (.comp elt k src cond) J U = .ok (.lst ((l.filter p).map g)) U1 := by
 show ((evL F false src J U).bind fun vs U => (R.lift U (zT U k vs)).bind fun it U =>
   (zn it (fun x acc U => (evC F false cond (J ++ [x]) U).calm.bind fun t U => if t then (evE F false elt (J ++ [x]) U).calmE.bind fun y U => (if acc.length < LIM then .ok (acc ++ [y]) U else .stuck) else .ok acc U) [] U).bind fun acc U => R.ok (V.lst acc) U) = _
 simp only [hsrc, R.bind_ok, hit, R.lift_some]
 have := zHJ (f := fun x acc U => (evC F false cond (J ++ [x]) U).calm.bind fun t U => if t then (evE F false elt (J ++ [x]) U).calmE.bind fun y U => (if acc.length < LIM then .ok (acc ++ [y]) U else .stuck) else .ok acc U)
  (fun i => ((l.take i).filter p).map g) hg (fun i x hx => by
   rw [List.getElem?_map] at hx
   cases hi : l[i]? with
   | none => rw [hi] at hx; cases hx
   | some a =>
    rw [hi] at hx
    obtain rfl : φ a = x := by simpa using hx
    have ha : a ∈ l := List.mem_of_getElem? hi
    have hlt : i < l.length := (List.getElem?_eq_some_iff.mp hi).1
    have ht : l.take (i + 1) = l.take i ++ [a] := by rw [List.take_add_one, hi]; rfl
    simp only [hc a ha, R.calm_ok, R.bind_ok, ht, List.filter_append, List.map_append]
    cases hp : p a with
    | false => simp [hp]
    | true =>
     have hle : (((l.take i).filter p).map g).length < LIM := by
      have := List.length_filter_le p (l.take i)
      rw [List.length_map]
      have := List.length_take_le i l
      omega
     simp [he a ha hp, R.calmE, R.calm_ok, hp, List.length_map] at hle ⊢
     exact hle)
 simp only [List.take_zero, List.filter_nil, List.map_nil, List.length_map, List.take_length] at this
 rw [this]
 rfl
theorem zLk {it : Items} {f : V -> List V -> Sto -> R Fl} {xs : List V} {J : List V} {U : Sto} (I : Nat -> List V -> Sto -> Prop) (hit : ∀ i J U, I i J U -> Gives U it xs) (h0 : I 0 J U)
  (hs : ∀ i x J U, xs[i]? = some x -> I i J U -> ∃ J' U', f x J U = .ok (.next J') U' /\ I (i + 1) J' U') :
  ∃ J' U', yZ it f J U = .ok (.next J') U' /\ I xs.length J' U' := by
 have key : ∀ k i J U, k + i = xs.length -> I i J U -> ∃ J' U', yy it f (k + 1) i J U = .ok (.next J') U' /\ I xs.length J' U' := by
  intro k
  induction k with
  | zero =>
   intro i J U hi h
   obtain rfl : i = xs.length := (Nat.zero_add i).symm.trans hi
   exact ⟨J, U, zK6 (((hit _ _ _ h).next _).trans (by rw [List.getElem?_eq_none (Nat.le_refl _)])), h⟩
  | succ k ih =>
   intro i J U hi h
   have hlt : i < xs.length := Nat.lt_of_lt_of_eq (Nat.lt_add_of_pos_left (Nat.succ_pos k)) hi
   obtain ⟨J', U', e, h'⟩ := hs i _ J U (List.getElem?_eq_getElem hlt) h
   obtain ⟨J'', U'', e', h''⟩ := ih (i + 1) J' U' ((Nat.succ_add_eq_add_succ k i).symm.trans hi) h'
   refine ⟨J'', U'', ?_, h''⟩
   rw [zK7 (((hit _ _ _ h).next _).trans (by rw [List.getElem?_eq_getElem hlt])) e]
   exact e'
 rw [yZ, (hit _ _ _ h0).fuel]
 exact key xs.length 0 J U rfl h0
theorem zI4 {c : List V -> Sto -> R Bool} {b : List V -> Sto -> R Fl} {P : List V -> Sto -> Prop} (I : Nat -> List V -> Sto -> Prop)
  (hs : ∀ m J U, I m J U -> (c J U = .ok false U /\ P J U) \/ (c J U = .ok true U /\ ∃ m' J' U', m' < m /\ b J U = .ok (.next J') U' /\ I m' J' U')) :
  ∀ fuel m J U, I m J U -> m < fuel -> ∃ J' U', wK c b fuel J U = .ok (.next J') U' /\ P J' U' := by
 intro fuel
 induction fuel with
 | zero => intro m J U _ h; omega
 | succ k ih =>
  intro m J U h hm
  rcases hs m J U h with ⟨e, p⟩ | ⟨e, m', J', U', hlt, e', h'⟩
  ·exact ⟨J, U, by show R.bind (c J U) _ = _; rw [e]; rfl, p⟩
  ·obtain ⟨J'', U'', e'', p⟩ := ih m' J' U' h' (by omega)
   exact ⟨J'', U'', by show R.bind (c J U) _ = _; rw [e]; show R.bind (b J U) _ = _; rw [e']; exact e'', p⟩
section
variable (U : Sto)
@[simp] theorem zC9 (x y : Int) : ev2 .add U (.int x) (.int y) = some (.int (x + y)) := rfl
@[simp] theorem zA1 (x y : Int) : ev2 .sub U (.int x) (.int y) = some (.int (x - y)) := rfl
@[simp] theorem xG (x y : Int) : ev2 .lt U (.int x) (.int y) = some (.bool (x < y)) := rfl
@[simp] theorem zQE (x y : Int) : ev2 .le U (.int x) (.int y) = some (.bool (x <= y)) := rfl
@[simp] theorem zBS (x y : Int) : ev2 .gt U (.int x) (.int y) = some (.bool (x > y)) := rfl
@[simp] theorem zNf (x y : Int) : ev2 .ge U (.int x) (.int y) = some (.bool (x >= y)) := rfl
@[simp] theorem zA0 (x y : Int) : ev2 .min U (.int x) (.int y) = some (.int (if y < x then y else x)) := rfl
@[simp] theorem zGH (x y : Int) : ev2 .max U (.int x) (.int y) = some (.int (if y > x then y else x)) := rfl
theorem zLf (y : Nat) (h : y <= 40) : ev2 .pow U (.int 10) (.int y) = some (.int (10 ^ y)) := by
 show (if ((10 : Int) == 10 && decide (0 <= (y : Int)) && decide ((y : Int) <= 40)) = true then some (V.int (10 ^ (y : Int).toNat)) else none) = _
 rw [if_pos (by simp; omega), Int.toNat_natCast]
theorem yI (x y : Int) (h : zk x = true \/ zk y = true) : ev2 .mul U (.int x) (.int y) = some (.int (x * y)) := by
 show (if (zk x || zk y) = true then some (V.int (x * y)) else none) = _
 rw [<- Bool.or_eq_true] at h; rw [if_pos h]
theorem wG (x y : Int) (h : (y == 0 || decide (1073741824 <= y.natAbs)) = false) : ev2 .fdiv U (.int x) (.int y) = some (.int (x.fdiv y)) := by
 show (if (y == 0 || decide (1073741824 <= y.natAbs)) = true then none else some (V.int (x.fdiv y))) = _
 rw [h]; rfl
theorem xq (x y : Int) (h : (y == 0) = false) : ev2 .mod U (.int x) (.int y) = some (.int (x.fmod y)) := by
 show (if (y == 0) = true then none else some (V.int (x.fmod y))) = _
 rw [h]; rfl
@[simp] theorem zPs (a b : Int) : eqV U (.int a) (.int b) = some (a == b) := rfl
@[simp] theorem xP (x y : Int) : ev2 .eq U (.int x) (.int y) = some (.bool (x == y)) := rfl
@[simp] theorem zNg (x y : Int) : ev2 .ne U (.int x) (.int y) = some (.bool (x != y)) := rfl
@[simp] theorem zPu (x : Int) : ev1 .neg U (.int x) = some (.int (-x)) := rfl
@[simp] theorem zPt (x : Int) : ev1 .abs U (.int x) = some (.int x.natAbs) := rfl
@[simp] theorem zi (xs : List V) : ev1 .len U (.lst xs) = some (.int xs.length) := rfl
@[simp] theorem zD5 (xs : List V) : ev1 .len U (.tup xs) = some (.int xs.length) := rfl
theorem vH {n : Nat} {xs : List V} (h : U[n]? = some (.list xs)) : ev1 .len U (.ref n) = some (.int xs.length) := by
 show (match U[n]? with | some (.list xs) => some (V.int xs.length) | _ => none) = _
 rw [h]
@[simp] theorem zLe (b : Bool) : ev1 .not U (.bool b) = some (.bool !b) := rfl
@[simp] theorem zJi (xs : List V) : ev1 .toList U (.lst xs) = some (.lst xs) := rfl
@[simp] theorem zJj (xs : List V) : ev1 .toList U (.tup xs) = some (.lst xs) := rfl
@[simp] theorem zMR (x : Str) : ev1 .len U (.str x) = some (.int x.length) := rfl
@[simp] theorem zPX (x : Str) : jP U .str (.str x) = some true := rfl
@[simp] theorem zPW (i : Int) : jP U .str (.int i) = some false := rfl
@[simp] theorem zOe (x : Str) : strOf? (.str x) = some x := rfl
@[simp] theorem zMo (b : Bool) : truthy U (.bool b) = some b := rfl
@[simp] theorem truthy_int (b : Int) : truthy U (.int b) = some (b != 0) := rfl
noncomputable def iv (l : List Int) : List V := l.map V.int
@[simp] theorem wI (l : List Int) : (iv l).length = l.length := by simp [iv]
noncomputable def gI (l : List Int) (k : Nat) : Int := l.getD k 0
theorem zLo (l : List Int) : ints? (iv l) = some l := by
 induction l with
 | nil => rfl
 | cons x l ih =>
  simp only [ints?, iv, List.map_cons, List.mapM_cons] at ih ⊢
  simp [ih, intOf?]
@[simp] theorem xg (l : List Int) : ev1 .sum U (.lst (iv l)) = some (.int l.sum) := by
 show (ints? (iv l)).map (fun l => V.int l.sum) = _
 rw [zLo]; rfl
theorem xx {n i : Nat} (h : i < n) : zd n (i : Int) = some i := by
 unfold zd
 rw [if_pos (Int.natCast_nonneg i), Int.toNat_natCast, if_pos h]
theorem yl {l : List V} {i : Nat} {v : V} (h : l[i]? = some v) : ev2 .index U (.lst l) (.int i) = some v := by
 show ((zd l.length i).bind fun k => l[k]?) = some v
 rw [xx (List.getElem?_eq_some_iff.mp h).1]; exact h
theorem wa {l : List V} {i : Nat} {v : V} (h : l[i]? = some v) : ev2 .index U (.tup l) (.int i) = some v := by
 show ((zd l.length i).bind fun k => l[k]?) = some v
 rw [xx (List.getElem?_eq_some_iff.mp h).1]; exact h
theorem zU {l : List V} {i n : Nat} {v : V} (hn : U[n]? = some (.list l)) (h : l[i]? = some v) : ev2 .index U (.ref n) (.int i) = some v := by
 show (match U[n]? with | some (.list xs) => (zd xs.length i).bind fun k => xs[k]? | some (.dict es) => (es.find? fun p => p.1 == (i : Int)).map fun p => p.2 | _ => none) = some v
 rw [hn]
 show ((zd l.length i).bind fun k => l[k]?) = some v
 rw [xx (List.getElem?_eq_some_iff.mp h).1]; exact h
theorem zJ0 {l : List Int} {i : Nat} (h : i < l.length) : (iv l)[i]? = some (.int (gI l i)) := by simp [iv, gI, h]
theorem xK {l : List Int} {i : Nat} (h : i < l.length) : ev2 .index U (.lst (iv l)) (.int i) = some (.int (gI l i)) := yl U (zJ0 h)
theorem zAE {l : List Int} {i n : Nat} (hn : U[n]? = some (.list (iv l))) (h : i < l.length) : ev2 .index U (.ref n) (.int i) = some (.int (gI l i)) := zU U hn (zJ0 h)
theorem zv {n : Int} (h : n.natAbs <= LIM) : zT U .range1 [.int n] = some (.now (za 0 n)) := by
 show (if n.natAbs <= LIM then some (Items.now (za 0 n)) else none) = _
 rw [if_pos h]
theorem zEM {xs : List V} : zT U .val [.tup xs] = some (.now xs) := rfl
theorem yV {n : Nat} {xs : List V} (h : U[n]? = some (.list xs)) : zT U .val [.ref n] = some (.live n) := by
 show jv n U[n]? = _
 rw [h]; rfl
@[simp] theorem zBR (k : Kd) (v : V) : ev1 (.isInst k) U v = (jP U k v).map .bool := rfl
@[simp] theorem zPU (i : Int) : jP U .int (.int i) = some true := rfl
@[simp] theorem zPT (i : Int) : jP U .bool (.int i) = some false := rfl
@[simp] theorem zPY (xs : List V) : jP U .tuple (.tup xs) = some true := rfl
@[simp] theorem zPV (xs : List V) : jP U .list (.lst xs) = some true := rfl
theorem zEK {n : Nat} {xs : List V} (h : U[n]? = some (.list xs)) : jP U .list (.ref n) = some true := by
 show zIz U[n]? .list = _
 rw [h]; rfl
theorem xH {n i : Nat} {xs : List V} {v : V} (hn : U[n]? = some (.list xs)) (h : i < xs.length) : xI U (.ref n) (.int i) v = .ok () (U.set n (.list (xs.set i v))) := by
 show zAg U n i v U[n]? = _
 rw [hn]
 show (if 0 <= (i : Int) /\ (i : Int).toNat < xs.length then R.ok () (U.set n (.list (xs.set (i : Int).toNat v))) else .stuck) = _
 rw [if_pos ⟨Int.natCast_nonneg i, by rwa [Int.toNat_natCast]⟩, Int.toNat_natCast]
theorem zm {n : Nat} {xs : List V} {x : V} (hn : U[n]? = some (.list xs)) (h : xs.length < LIM) : wY U (.ref n) x = .ok .none (U.set n (.list (xs ++ [x]))) := by
 show (match U[n]? with | some (.list xs) => if xs.length < LIM then R.ok V.none (U.set n (.list (xs ++ [x]))) else .stuck | _ => .stuck) = _
 rw [hn]
 show (if xs.length < LIM then R.ok V.none (U.set n (.list (xs ++ [x]))) else .stuck) = _
 rw [if_pos h]
@[simp] theorem zPQ (a : V) (l : List V) : ev2 .index U (.tup (a :: l)) (.int 0) = some a := wa U (i := 0) rfl
@[simp] theorem zPR (a b : V) (l : List V) : ev2 .index U (.tup (a :: b :: l)) (.int 1) = some b := wa U (i := 1) rfl
@[simp] theorem zPS (a b c : V) (l : List V) : ev2 .index U (.tup (a :: b :: c :: l)) (.int 2) = some c := wa U (i := 2) rfl
end
theorem zH {T : Nat -> Option Fn} {d : Nat} {q : Bool} {f : Nat} {fn : Fn} {args : List V} {U U' : Sto} {v : V} (hT : T f = some fn) (hl : args.length = fn.params)
  (h : exL (zA T d q) (zA T d true) q fn.body (args ++ List.replicate (fn.slots - fn.params) .undef) U = .ok (.ret v) U') : zA T (d + 1) q f args U = .ok v U' := by
 show (match T f with | none => R.stuck | some fn => if args.length = fn.params then (exL (zA T d q) (zA T d true) q fn.body (args ++ List.replicate (fn.slots - fn.params) V.undef) U).bind zB0 else .stuck) = _
 rw [hT]
 show (if args.length = fn.params then (exL (zA T d q) (zA T d true) q fn.body (args ++ List.replicate (fn.slots - fn.params) V.undef) U).bind zB0 else .stuck) = _
 rw [if_pos hl, h]; rfl
theorem zK0 {F Fq : Calls} {c : CE} {body : List CS} {J : List V} {U : Sto} {P : List V -> Sto -> Prop} (I : Nat -> List V -> Sto -> Prop) (m : Nat) (hm : m < zBn) (h0 : I m J U)
  (hs : ∀ m J U, I m J U -> ((evE F false c J U).bind fun v U => R.lift U (truthy U v)) = .ok false U /\ P J U \/
   ((evE F false c J U).bind fun v U => R.lift U (truthy U v)) = .ok true U /\ ∃ m' J' U', m' < m /\ exL F Fq false body J U = .ok (.next J') U' /\ I m' J' U') :
  ∃ J' U', exS F Fq false (.while c body) J U = .ok (.next J') U' /\ P J' U' := by
 rw [zDb, if_neg Bool.false_ne_true]
 exact zI4 (c := fun J U => ((evE F false c J U).bind fun v U => R.lift U (truthy U v)).calm) (b := fun J U => (exL F Fq false body J U).calm) (P := P) I (fun m J U h => by
  rcases hs m J U h with ⟨e, p⟩ | ⟨e, m', J', U', hl, e', h'⟩
  ·exact .inl ⟨by simp only [e]; rfl, p⟩
  ·exact .inr ⟨by simp only [e]; rfl, m', J', U', hl, by simp only [e']; rfl, h'⟩) zBn m J U h0 hm
theorem wH {F Fq : Calls} {i : Nat} {k : SK} {src : List CE} {body : List CS} {J vs : List V} {U U1 : Sto} {it : Items} {xs : List V} (I : Nat -> List V -> Sto -> Prop)
  (hsrc : evL F false src J U = .ok vs U1) (hit : zT U1 k vs = some it) (hI : ∀ j J U, I j J U -> Gives U it xs) (h0 : I 0 J U1)
  (hs : ∀ j x J U, xs[j]? = some x -> I j J U -> ∃ J' U', exL F Fq false body (J.set i x) U = .ok (.next J') U' /\ I (j + 1) J' U') :
  ∃ J' U', exS F Fq false (.for i k src body) J U = .ok (.next J') U' /\ I xs.length J' U' := by
 have e : exS F Fq false (.for i k src body) J U = yZ it (fun x J U => (exL F Fq false body (J.set i x) U)) J U1 := by
  show ((evL F false src J U).bind fun vs U => (R.lift U (zT U k vs)).bind fun it U => yZ it (fun x J U => (exL F Fq false body (J.set i x) U)) J U) = _
  simp only [hsrc, R.bind_ok, hit, R.lift_some]
 rw [e]
 exact zLk (it := it) (f := fun x J U => (exL F Fq false body (J.set i x) U)) I hI h0 (fun j x J U hx h => by
  exact hs j x J U hx h)
theorem xJ {α : Type} (l : List α) : l.filter (fun _ => true) = l := by simp
end Mine
end

section
namespace Mine
open PySem
noncomputable abbrev Loc := Addr × Option Addr
noncomputable def Loc.addrs : Loc -> List Addr
 | (a, none) => [a]
 | (a, some d) => [a, d]
noncomputable def addrs (f : List Loc) : List Addr := f.flatMap Loc.addrs
theorem jK (f g : List Loc) : addrs (f ++ g) = addrs f ++ addrs g := by simp [addrs]
theorem mem_addrs_append {f g : List Loc} {a : Addr} : a ∈ addrs (f ++ g) ↔ a ∈ addrs f \/ a ∈ addrs g := by rw [jK, List.mem_append]
structure zO where
 prog : Program
 w : World
 hb : Heap
 cl : Cls -> Value
 book : Addr
 parts : Value
 hasParts : Bool
 fn : Nat -> Addr
 kn : List Cls
noncomputable def bmV : List Value := [.type "ValueError", .type "Exception", .type "BaseException", .type "object"]
inductive zBB (S : zO) (c : Cls) : Prop where
 | mk (Ca : Addr) (bm : List Value) (N : Addr) (nm q : Str) (bs : List Value) (hdct : Bool) (sn : List Str) (sub : List Value) (ab : Bool) (col : Option Bool) (dd : Option Addr) (k0 k1 k2 k3 k5 : Option Value) (mN : Str -> Option Value)
   (hcl : S.cl c = .ref Ca) (hC : S.hb.get? Ca = some (excClassObj nm q Ca N bs bm hdct sn sub ab col dd k0 k1 k2 k3 k5 "ValueError.__new__")) (hN : S.hb.Ns N mN) (hni : mN "__init__" = none) (OT : OwnTail S.hb bmV bm)
   (hm : ∀ d ∈ S.kn, (Value.ref Ca :: bm).contains (S.cl d) = c.sub d)
   (TC : TailC S.hb (.ref Ca :: bm))
inductive SeqAt (X : List Addr) (f : List Loc) (I : Addr -> Array Value -> Nat -> Prop) (P : List Value -> Prop) (k : Nat) (v : Value) : Prop
 | mk (a : Addr) (vs : Array Value) (n : Nat) (e : v = .ref a) (ha : a ∉ addrs f /\ a ∉ X) (i : I a vs n) (p : P vs.toList) (hl : k <= LIM)
mutual
noncomputable def VR (S : zO) (X : List Addr) (f : List Loc) (h : Heap) : V -> Value -> Prop
 | .undef, _ => False
 | .none, v => v = .none
 | .bool b, v => v = .bool b
 | .int i, v => ∃ t, v = .int i t
 | .str x, v => (∃ t, v = .str x t) /\ x.length <= LIM /\ PyData.strOk x = true
 | .tup xs, v => SeqAt X f (IsT h) (VRs S X f h xs) xs.length v
 | .lst xs, v => SeqAt X f (IsL h) (VRs S X f h xs) xs.length v
 | .ref n, v => ∃ l, f[n]? = some l /\ v = .ref l.1
 | .exc c, v => ∃ a o, v = .ref a /\ (a ∉ addrs f /\ a ∉ X) /\ h.get? a = some o /\ o.cls = S.cl c /\ zBB S c
 | .parts, v => S.hasParts = true /\ v = S.parts
noncomputable def VRs (S : zO) (X : List Addr) (f : List Loc) (h : Heap) : List V -> List Value -> Prop
 | [], [] => True
 | x :: xs, v :: vs => VR S X f h x v /\ VRs S X f h xs vs
 | [], _ :: _ => False
 | _ :: _, [] => False
end
theorem wC {S : zO} {X : List Addr} {f : List Loc} {h : Heap} : ∀ {xs : List V} {vs : List Value}, VRs S X f h xs vs -> xs.length = vs.length
 | [], [], _ => rfl
 | _ :: _, _ :: _, e => by simp [wC e.2]
 | [], _ :: _, e => False.elim e
 | _ :: _, [], e => False.elim e
noncomputable def SameObj (o o' : Obj) : Prop := o' = o \/ ((∃ es n, o.data = .dict es n) /\ o'.cls = o.cls /\ o'.dict = o.dict /\ o'.data = o.data)
theorem SameObj.refl (o : Obj) : SameObj o o := .inl rfl
theorem SameObj.data {o o' : Obj} (x : SameObj o o') : o'.data = o.data := x.elim (fun e => by rw [e]) fun e => e.2.2.2
theorem SameObj.cls {o o' : Obj} (x : SameObj o o') : o'.cls = o.cls := x.elim (fun e => by rw [e]) fun e => e.2.1
theorem SameObj.dict {o o' : Obj} (x : SameObj o o') : o'.dict = o.dict := x.elim (fun e => by rw [e]) fun e => e.2.2.1
theorem SameObj.exact {o o' : Obj} (x : SameObj o o') (h : ∀ es n, o.data ≠ .dict es n) : o' = o := x.elim id fun e => by obtain ⟨⟨es, n, q⟩, _⟩ := e; exact absurd q (h es n)
theorem SameObj.trans {a b c : Obj} (x : SameObj a b) (y : SameObj b c) : SameObj a c := by
 rcases x with rfl | ⟨x1, x2, x3, x4⟩
 ·exact y
 ·exact .inr ⟨x1, y.cls.trans x2, y.dict.trans x3, y.data.trans x4⟩
structure Kp (f : List Loc) (Y : List Addr) (s s' : Shared) : Prop where
 rest : s' = { s with heap := s'.heap, toks := s'.toks }
 live : ∀ a o, s.heap.get? a = some o -> ∃ o', s'.heap.get? a = some o'
 kept : ∀ a o, s.heap.get? a = some o -> a ∉ addrs f -> a ∉ Y -> ∃ o', s'.heap.get? a = some o' /\ SameObj o o'
 dicts : ∀ a o es n, s.heap.get? a = some o -> o.data = .dict es n -> a ∉ addrs f -> ∃ o' es' n', s'.heap.get? a = some o' /\ o'.data = .dict es' n'
noncomputable def Fresh (g : List Loc) (s : Shared) : Prop := ∀ a ∈ addrs g, s.heap.get? a = none
theorem Fresh.nil (s : Shared) : Fresh [] s := fun _ h => nomatch h
theorem Kp.refl (f : List Loc) (Y : List Addr) (s : Shared) : Kp f Y s s :=
 ⟨rfl, fun _ o e => ⟨o, e⟩, fun _ o e _ _ => ⟨o, e, .refl o⟩, fun _ o es n e d _ => ⟨o, es, n, e, d⟩⟩
theorem Kp.mono {f : List Loc} {Y Z : List Addr} {s s' : Shared} (k : Kp f Y s s') (h : ∀ a ∈ Y, a ∈ Z) : Kp f Z s s' :=
 ⟨k.rest, k.live, fun a o e h1 h2 => k.kept a o e h1 fun h3 => h2 (h a h3), k.dicts⟩
theorem yH {g : List Loc} {s : Shared} (hg : Fresh g s) {a : Addr} {o : Obj} (e : s.heap.get? a = some o) : a ∉ addrs g :=
 fun h => by rw [hg a h] at e; cases e
theorem Kp.trans {f g : List Loc} {Y : List Addr} {s s₁ s₂ : Shared} (k : Kp f Y s s₁) (hg : Fresh g s) (k' : Kp (f ++ g) Y s₁ s₂) : Kp f Y s s₂ where
 rest := by rw [k'.rest, k.rest]
 live a o e := let ⟨o₁, e₁⟩ := k.live a o e; k'.live a o₁ e₁
 kept a o e h1 h2 := by
  obtain ⟨o₁, e₁, q₁⟩ := k.kept a o e h1 h2
  obtain ⟨o₂, e₂, q₂⟩ := k'.kept a o₁ e₁ (fun h => (mem_addrs_append.mp h).elim h1 (yH hg e)) h2
  exact ⟨o₂, e₂, q₁.trans q₂⟩
 dicts a o es n e d h1 := by
  obtain ⟨o₁, es1, n₁, e₁, d₁⟩ := k.dicts a o es n e d h1
  exact k'.dicts a o₁ es1 n₁ e₁ d₁ (fun h => (mem_addrs_append.mp h).elim h1 (yH hg e))
theorem zw {s s₁ : Shared} (hs : ∀ a o, s.heap.get? a = some o -> ∃ o', s₁.heap.get? a = some o') {a : Addr} (h : s₁.heap.get? a = none) : s.heap.get? a = none := by
 cases e : s.heap.get? a with
 | none => rfl
 | some o => obtain ⟨o', e'⟩ := hs a o e; rw [h] at e'; cases e'
theorem Fresh.trans {g g' : List Loc} {s s₁ : Shared} (hg : Fresh g s) (hs : ∀ a o, s.heap.get? a = some o -> ∃ o', s₁.heap.get? a = some o') (hg' : Fresh g' s₁) : Fresh (g ++ g') s :=
 fun a h => (mem_addrs_append.mp h).elim (hg a) fun h => zw hs (hg' a h)
mutual
theorem VR.keep {S : zO} {X X' : List Addr} {f f' : List Loc} {h h' : Heap}
  (kf : ∀ (i : Nat) (l : Loc), f[i]? = some l -> f'[i]? = some l)
  (kh : ∀ a o, h.get? a = some o -> a ∉ addrs f -> a ∉ X -> (a ∉ addrs f' /\ a ∉ X') /\ ∃ o', h'.get? a = some o' /\ SameObj o o') :
  ∀ (x : V) (v : Value), VR S X f h x v -> VR S X' f' h' x v
 | .undef, _, e => False.elim e
 | .none, _, e => e
 | .bool _, _, e => e
 | .int _, _, e => e
 | .str _, _, e => e
 | .ref n, _, e => by
  obtain ⟨l, e1, e2⟩ := e
  exact ⟨l, kf _ _ e1, e2⟩
 | .exc c, _, e => by
  obtain ⟨a, o, e1, e2, e3, e4, e5⟩ := e
  obtain ⟨q1, o', q2, q3⟩ := kh a o e3 e2.1 e2.2
  exact ⟨a, o', e1, q1, q2, q3.cls.trans e4, e5⟩
 | .parts, _, e => e
 | .tup xs, _, e => by
  obtain ⟨a, vs, n, e1, e2, e3, e7, e8⟩ := e
  obtain ⟨q1, o', q2, q3⟩ := kh a _ e3 e2.1 e2.2
  exact ⟨a, vs, n, e1, q1, q2.trans (congrArg some (q3.exact fun _ _ q => by cases q)), VRs.keep kf kh xs vs.toList e7, e8⟩
 | .lst xs, _, e => by
  obtain ⟨a, vs, n, e1, e2, e3, e7, e8⟩ := e
  obtain ⟨q1, o', q2, q3⟩ := kh a _ e3 e2.1 e2.2
  exact ⟨a, vs, n, e1, q1, q2.trans (congrArg some (q3.exact fun _ _ q => by cases q)), VRs.keep kf kh xs vs.toList e7, e8⟩
theorem VRs.keep {S : zO} {X X' : List Addr} {f f' : List Loc} {h h' : Heap}
  (kf : ∀ (i : Nat) (l : Loc), f[i]? = some l -> f'[i]? = some l)
  (kh : ∀ a o, h.get? a = some o -> a ∉ addrs f -> a ∉ X -> (a ∉ addrs f' /\ a ∉ X') /\ ∃ o', h'.get? a = some o' /\ SameObj o o') :
  ∀ (xs : List V) (vs : List Value), VRs S X f h xs vs -> VRs S X' f' h' xs vs
 | [], [], e => e
 | x :: xs, v :: vs, e => by
  exact ⟨VR.keep kf kh x v e.1, VRs.keep kf kh xs vs e.2⟩
 | [], _ :: _, e => False.elim e
 | _ :: _, [], e => False.elim e
end
theorem VR.keepK {S : zO} {X : List Addr} {f g : List Loc} {Y : List Addr} {s s' : Shared} (k : Kp f Y s s') (hg : Fresh g s) (hY : ∀ a ∈ Y, a ∈ X)
  {x : V} {v : Value} (e : VR S X f s.heap x v) : VR S X (f ++ g) s'.heap x v :=
 VR.keep (fun _ _ e => List.getElem?_append_left (List.getElem?_eq_some_iff.mp e).1 ▸ e)
  (fun a o ho h1 h2 => ⟨⟨fun h => (mem_addrs_append.mp h).elim h1 (yH hg ho), h2⟩, k.kept a o ho h1 fun h => h2 (hY a h)⟩) x v e
theorem VRs.keepK {S : zO} {X : List Addr} {f g : List Loc} {Y : List Addr} {s s' : Shared} (k : Kp f Y s s') (hg : Fresh g s) (hY : ∀ a ∈ Y, a ∈ X)
  {x : List V} {v : List Value} (e : VRs S X f s.heap x v) : VRs S X (f ++ g) s'.heap x v :=
 VRs.keep (fun _ _ e => List.getElem?_append_left (List.getElem?_eq_some_iff.mp e).1 ▸ e)
  (fun a o ho h1 h2 => ⟨⟨fun h => (mem_addrs_append.mp h).elim h1 (yH hg ho), h2⟩, k.kept a o ho h1 fun h => h2 (hY a h)⟩) x v e
theorem VR.less {S : zO} {X X' : List Addr} {f : List Loc} {h : Heap} (hX : ∀ a ∈ X', a ∈ X) {x : V} {v : Value} (e : VR S X f h x v) : VR S X' f h x v :=
 VR.keep (fun _ _ e => e) (fun _ o ho h1 h2 => ⟨⟨h1, fun h => h2 (hX _ h)⟩, o, ho, .refl o⟩) x v e
theorem VRs.less {S : zO} {X X' : List Addr} {f : List Loc} {h : Heap} (hX : ∀ a ∈ X', a ∈ X) {x : List V} {v : List Value} (e : VRs S X f h x v) : VRs S X' f h x v :=
 VRs.keep (fun _ _ e => e) (fun _ o ho h1 h2 => ⟨⟨h1, fun h => h2 (hX _ h)⟩, o, ho, .refl o⟩) x v e
theorem VR.more {S : zO} {X X' : List Addr} {f : List Loc} {h : Heap} (hX : ∀ a ∈ X', a ∈ X \/ h.get? a = none) {x : V} {v : Value} (e : VR S X f h x v) : VR S X' f h x v :=
 VR.keep (fun _ _ e => e) (fun a o ho h1 h2 => ⟨⟨h1, fun h => (hX _ h).elim h2 fun q => by rw [q] at ho; cases ho⟩, o, ho, .refl o⟩) x v e
noncomputable def zQ (k : Nat) : Str := if k = 0 then "entries" else "history"
noncomputable def OR (S : zO) (X : List Addr) (f : List Loc) (h : Heap) : Loc -> O -> Prop
 | (a, none), .list xs => ∃ vs n, IsL h a vs n /\ VRs S X f h xs vs.toList /\ xs.length <= LIM
 | (a, none), .dict es => ∃ kvs, Even (intKind S.prog S.w) h a kvs /\ kvs.map (·.1) = es.map (·.1) /\ VRs S X f h (es.map (·.2)) (kvs.map (·.2)) /\ es.length <= LIM /\ (a == sysModules) = false
 | (a, some d), .inst as => ∃ ob mA, h.get? a = some ob /\ (ob.cls = .ref S.book /\ ob.dict = some d /\ (∀ c, ob.data ≠ .cls c) /\ d ≠ a) /\ h.Ns1 d mA /\ (∀ k x, as.lookup k = some x -> ∃ v, mA (zQ k) = some v /\ VR S X f h x v) /\ (∀ x v, mA x = some v -> x = zQ 0 \/ x = zQ 1) /\ ∀ k, k ∈ as.map (·.1) -> k < 2
 | _, _ => False
theorem OR.keep {S : zO} {X X' : List Addr} {f f' : List Loc} {h h' : Heap} (k : ∀ x v, VR S X f h x v -> VR S X' f' h' x v) (ks : ∀ x v, VRs S X f h x v -> VRs S X' f' h' x v) {l : Loc} {o : O}
  (hl : ∀ a ∈ l.addrs, h'.get? a = h.get? a) (e : OR S X f h l o) : OR S X' f' h' l o := by
 obtain ⟨a, d⟩ := l
 cases d with
 | none =>
  have ha := hl a (List.mem_singleton.mpr rfl)
  cases o with
  | list xs =>
   obtain ⟨vs, n, e1, e5, e6⟩ := e
   exact ⟨vs, n, ha.trans e1, ks _ _ e5, e6⟩
  | dict es =>
   obtain ⟨kvs, e1, e2, e3, e4⟩ := e
   exact ⟨kvs, e1.at ha, e2, ks _ _ e3, e4⟩
  | inst as => exact e.elim
 | some d =>
  have ha := hl a (List.mem_cons_self)
  have hd := hl d (List.mem_cons_of_mem _ (List.mem_singleton.mpr rfl))
  cases o with
  | list xs => exact e.elim
  | dict es => exact e.elim
  | inst as =>
   obtain ⟨ob, mA, e1, e0, ⟨o, es, ep, e2, r⟩, e3, e4⟩ := e
   exact ⟨ob, mA, ha.trans e1, e0, ⟨o, es, ep, hd.trans e2, r⟩, fun i x q => let ⟨v, q1, q2⟩ := e3 i x q; ⟨v, q1, k _ _ q2⟩, e4⟩
structure Lk (S : zO) (X : List Addr) (f : List Loc) (U : Sto) (h : Heap) : Prop where
 base : ∀ b o, S.hb.get? b = some o -> h.get? b = some o
 len : f.length = U.length
 nodup : (addrs f).Nodup
 fresh : ∀ a ∈ addrs f, S.hb.get? a = none
 hid : ∀ a ∈ X, S.hb.get? a = none /\ a ∉ addrs f /\ ∃ o, h.get? a = some o
 obj : ∀ (i : Nat) (l : Loc) (o : O), f[i]? = some l -> U[i]? = some o -> OR S X f h l o
theorem OR.live {S : zO} {X : List Addr} {f : List Loc} {h : Heap} {l : Loc} {o : O} (e : OR S X f h l o) : ∀ a ∈ l.addrs, ∃ ob, h.get? a = some ob := by
 obtain ⟨a, d⟩ := l
 intro b hb
 cases d with
 | none =>
  obtain rfl := List.mem_singleton.mp hb
  cases o with
  | list xs => obtain ⟨vs, n, e1, _⟩ := e; exact ⟨_, e1⟩
  | dict es => obtain ⟨kvs, e1, _⟩ := e; exact e1.live
  | inst as => exact e.elim
 | some d =>
  cases o with
  | list xs => exact e.elim
  | dict es => exact e.elim
  | inst as =>
   obtain ⟨ob, mA, e1, e0, ⟨o, es, ep, e2, r⟩, _⟩ := e
   rcases List.mem_cons.mp hb with rfl | hb
   ·exact ⟨_, e1⟩
   ·obtain rfl := List.mem_singleton.mp hb; exact ⟨_, e2⟩
theorem zHW {f : List Loc} {a : Addr} (h : a ∈ addrs f) : ∃ (i : Nat) (l : Loc), f[i]? = some l /\ a ∈ l.addrs := by
 obtain ⟨l, hl, ha⟩ := List.mem_flatMap.mp h
 obtain ⟨i, hi⟩ := List.getElem?_of_mem hl
 exact ⟨i, l, hi, ha⟩
theorem zt {f : List Loc} {i : Nat} {l : Loc} {a : Addr} (h : f[i]? = some l) (ha : a ∈ l.addrs) : a ∈ addrs f :=
 List.mem_flatMap.mpr ⟨l, List.mem_of_getElem? h, ha⟩
theorem Lk.live {S : zO} {X : List Addr} {f : List Loc} {U : Sto} {h : Heap} (L : Lk S X f U h) {a : Addr} (ha : a ∈ addrs f) : ∃ ob, h.get? a = some ob := by
 obtain ⟨i, l, hi, hl⟩ := zHW ha
 have hlt : i < U.length := L.len ▸ (List.getElem?_eq_some_iff.mp hi).1
 exact (L.obj i l _ hi (List.getElem?_eq_getElem hlt)).live a hl
inductive ExcR (S : zO) (X : List Addr) (f : List Loc) (U : Sto) (h h₀ : Heap) (ea : Addr) (k : Cls) : Prop where
 | mk (e1 : h₀.get? ea = none) (ec : zBB S k) (hs : List Addr) (oe : Obj) (vs : Array Value) (L : Lk S (hs ++ X) f U h) (e4 : h.get? ea = some oe) (e5 : oe.cls = S.cl k) (e6 : oe.data = .fields vs) (e8 : (hs = [ea] /\ vs[1]? = some .none) \/
   ∃ T oT ts, hs = [ea, T] /\ h₀.get? T = none /\ T ≠ ea /\ vs[1]? = some (.ref T) /\ h.get? T = some oT /\ oT.data = .fields ts /\ 3 < ts.size)
theorem ExcR.back {S : zO} {X : List Addr} {f : List Loc} {U : Sto} {h h₀ h₁ : Heap} {ea : Addr} {k : Cls} (e : ExcR S X f U h h₁ ea k) (hl : ∀ a, h₁.get? a = none -> h₀.get? a = none) : ExcR S X f U h h₀ ea k := by
 obtain ⟨e1, ec, hs, oe, vs, L, e4, e5, e6, e8⟩ := e
 refine ⟨hl _ e1, ec, hs, oe, vs, L, e4, e5, e6, e8.imp id ?_⟩
 rintro ⟨T, oT, ts, t0, t1, t2⟩
 exact ⟨T, oT, ts, t0, hl _ t1, t2⟩
section
variable {α β γ δ : Type}
inductive QS (S : zO) (X Y : List Addr) (f : List Loc) (P : α -> β -> List Loc -> Shared -> Prop) (s : Shared) (r : R β) (a : α) (s' : Shared) : Prop where
 | mk (b : β) (U' : Sto) (g : List Loc) (e : r = .ok b U') (hg : Fresh g s) (k : Kp f Y s s') (L : Lk S X (f ++ g) U' s'.heap) (p : P a b (f ++ g) s')
inductive ES (S : zO) (X Y : List Addr) (f : List Loc) (tr : Bool) (s : Shared) (r : R β) (e : Value) (s' : Shared) : Prop where
 | mk (k : Cls) (U' : Sto) (g : List Loc) (ea : Addr) (e1 : e = .ref ea) (e2 : r = .exc k U') (hg : Fresh g s) (kp : Kp f Y s s') (L : Lk S X (f ++ g) U' s'.heap) (x : ExcR S X (f ++ g) U' s'.heap s.heap ea k)
noncomputable def Sim (S : zO) (A : Around) (X Y : List Addr) (f : List Loc) (P : α -> β -> List Loc -> Shared -> Prop) (t : Sem α) (r : R β) (s : Shared) : Prop :=
 r ≠ .stuck -> wpAny (model S.prog S.w) A t (QS S X Y f P s r) (ES S X Y f false s r) s
variable {S : zO} {A : Around} {X Y : List Addr} {f : List Loc} {P : α -> β -> List Loc -> Shared -> Prop} {P' : γ -> δ -> List Loc -> Shared -> Prop}
theorem QS.here {s : Shared} {U : Sto} {a : α} {b : β} (L : Lk S X f U s.heap) (p : P a b f s) : QS S X Y f P s (.ok b U) a s :=
 ⟨b, U, [], rfl, .nil s, .refl f Y s, by rwa [List.append_nil], by rwa [List.append_nil]⟩
end
end Mine
end

section
namespace Mine
open PySem PyProof.Rows
structure Ext (s s' : Shared) : Prop where
 rest : s' = { s with heap := s'.heap, toks := s'.toks }
 keep : ∀ b o, s.heap.get? b = some o -> s'.heap.get? b = some o
theorem Ext.refl (s : Shared) : Ext s s := ⟨rfl, fun _ _ e => e⟩
theorem Ext.toks (s : Shared) (t : Nat) : Ext s { s with toks := t } := ⟨rfl, fun _ _ e => e⟩
theorem Ext.heap {s : Shared} {h : Heap} {t : Nat} (k : ∀ b o, s.heap.get? b = some o -> h.get? b = some o) : Ext s { s with heap := h, toks := t } := ⟨rfl, k⟩
theorem Ext.push (s : Shared) (o : Obj) : Ext s { s with heap := s.heap.push o } := ⟨rfl, fun _ _ e => Heap.get?_push_of_some _ e⟩
theorem Ext.trans {a b c : Shared} (x : Ext a b) (y : Ext b c) : Ext a c := ⟨by rw [y.rest, x.rest], fun d o e => y.keep d o (x.keep d o e)⟩
theorem Ext.kp {s s' : Shared} (e : Ext s s') (f : List Loc) (Y : List Addr) : Kp f Y s s' :=
 ⟨e.rest, fun a o h => ⟨o, e.keep a o h⟩, fun a o h _ _ => ⟨o, e.keep a o h, .refl o⟩, fun a o es n h d _ => ⟨o, es, n, e.keep a o h, d⟩⟩
section
variable {S : zO} {X Y : List Addr} {f : List Loc} {U : Sto} {s s' : Shared}
theorem Ext.vr (e : Ext s s') {x : V} {v : Value} (h : VR S X f s.heap x v) : VR S X f s'.heap x v :=
 VR.keep (fun _ _ e => e) (fun a o h h1 h2 => ⟨⟨h1, h2⟩, o, e.keep a o h, .refl o⟩) x v h
theorem Ext.vrs (e : Ext s s') {x : List V} {v : List Value} (h : VRs S X f s.heap x v) : VRs S X f s'.heap x v :=
 VRs.keep (fun _ _ e => e) (fun a o h h1 h2 => ⟨⟨h1, h2⟩, o, e.keep a o h, .refl o⟩) x v h
theorem Ext.lk (e : Ext s s') (L : Lk S X f U s.heap) : Lk S X f U s'.heap where
 base b o h := e.keep b o (L.base b o h)
 len := L.len
 nodup := L.nodup
 fresh := L.fresh
 hid a ha := ⟨(L.hid a ha).1, (L.hid a ha).2.1, let ⟨o, q⟩ := (L.hid a ha).2.2; ⟨o, e.keep a o q⟩⟩
 obj i l o hi ho := (L.obj i l o hi ho).keep (fun _ _ => e.vr) (fun _ _ => e.vrs) fun a ha => by
  obtain ⟨ob, h⟩ := L.live (zt hi ha)
  rw [h]; exact e.keep a ob h
noncomputable def PV (S : zO) (X : List Addr) (v : Value) (x : V) (f : List Loc) (s : Shared) : Prop := VR S X f s.heap x v
theorem QS.leaf {x : V} {v : Value} (L : Lk S X f U s.heap) (e : Ext s s') (h : VR S X f s'.heap x v) : QS S X Y f (PV S X) s (.ok x U) v s' :=
 ⟨x, U, [], rfl, .nil s, e.kp f Y, by rw [List.append_nil]; exact e.lk L, by rw [List.append_nil]; exact h⟩
theorem Lk.new (L : Lk S X f U s.heap) {a : Addr} (h : s.heap.get? a = none) : a ∉ addrs f /\ a ∉ X :=
 ⟨fun q => (by obtain ⟨o, e⟩ := L.live q; rw [h] at e; cases e), fun q => (by obtain ⟨o, e⟩ := (L.hid a q).2.2; rw [h] at e; cases e)⟩
theorem yb (h : Heap) : h.get? h.objs.size = none := Heap.get?_none_of_le (Nat.le_refl _)
inductive NewL (S : zO) (X : List Addr) (f : List Loc) (s s' : Shared) (xs : List V) (v : Value) : Prop
 | mk (a : Addr) (vs : Array Value) (n : Nat) (e : v = .ref a) (hn : s.heap.get? a = none) (i : IsL s'.heap a vs n) (p : VRs S X f s.heap xs vs.toList) (hl : xs.length <= LIM)
theorem NewL.vr {xs : List V} {v : Value} (L : Lk S X f U s.heap) (e : Ext s s') (h : NewL S X f s s' xs v) : VR S X f s'.heap (.lst xs) v := by
 obtain ⟨a, vs, n, e1, e2, e3, e4, e5⟩ := h
 exact ⟨a, vs, n, e1, L.new e2, e3, e.vrs e4, e5⟩
end
section
variable {S : zO} {X : List Addr} {f : List Loc} {U : Sto} {h : Heap}
inductive zMw (S : zO) (X : List Addr) (f : List Loc) (h : Heap) (xs : List V) (v : Value) : Prop
 | mk (a : Addr) (vs : Array Value) (n : Nat) (e : v = .ref a) (i : IsL h a vs n) (p : VRs S X f h xs vs.toList) (hl : xs.length <= LIM)
theorem yE (L : Lk S X f U h) {x : V} {v : Value} {xs : List V} (e : listOf? U x = some xs) (r : VR S X f h x v) : zMw S X f h xs v := by
 cases x with
 | lst ys =>
  cases e
  obtain ⟨a, vs, n, e1, _, e3, e4, e5⟩ := r
  exact ⟨a, vs, n, e1, e3, e4, e5⟩
 | ref k =>
  obtain ⟨l, hl, rfl⟩ := r
  cases ho : U[k]? with
  | none => have e : xT U[k]? = some _ := e; rw [ho] at e; exact zB e
  | some o =>
   have e : xT U[k]? = some _ := e
   rw [ho] at e
   cases o <;> cases e
   have := L.obj k l _ hl ho
   obtain ⟨a, d⟩ := l
   cases d with
   | none => obtain ⟨vs, n, e1, e2, e3⟩ := this; exact ⟨a, vs, n, rfl, e1, e2, e3⟩
   | some d => exact this.elim
 | _ => first | exact zB e | exact zF e | cases e
inductive zLE (S : zO) (X : List Addr) (f : List Loc) (h : Heap) (xs : List V) (v : Value) : Prop
 | mk (a : Addr) (vs : Array Value) (n : Nat) (e : v = .ref a) (i : IsL h a vs n \/ IsT h a vs n) (p : VRs S X f h xs vs.toList) (hl : xs.length <= LIM)
theorem vJ (L : Lk S X f U h) {x : V} {v : Value} {xs : List V} (e : yr U x = some xs) (r : VR S X f h x v) :
  zLE S X f h xs v := by
 cases x with
 | tup ys =>
  cases e
  obtain ⟨a, vs, n, e1, _, e3, e4, e5⟩ := r
  exact ⟨a, vs, n, e1, .inr e3, e4, e5⟩
 | lst ys =>
  obtain ⟨a, vs, n, e1, e2, e3, e4⟩ := yE L (x := .lst ys) (xs := xs) e r
  exact ⟨a, vs, n, e1, .inl e2, e3, e4⟩
 | ref k =>
  obtain ⟨a, vs, n, e1, e2, e3, e4⟩ := yE L (x := .ref k) (xs := xs) e r
  exact ⟨a, vs, n, e1, .inl e2, e3, e4⟩
 | _ => first | exact zB e | exact zF e | cases e
theorem kL : ∀ {xs : List V} {vs : List Value}, VRs S X f h xs vs -> ∀ {i : Nat} {x : V}, xs[i]? = some x -> ∃ v, vs[i]? = some v /\ VR S X f h x v
 | x :: xs, v :: vs, r, 0, y, e => by simp at e; subst e; exact ⟨v, by simp, r.1⟩
 | x :: xs, v :: vs, r, i + 1, y, e => by simp at e; obtain ⟨w, h1, h2⟩ := kL r.2 e; exact ⟨w, by simpa using h1, h2⟩
 | [], _, _, _, _, e => by simp at e
 | _ :: _, [], r, _, _, _ => False.elim r
theorem xW : ∀ {xs ys : List V} {vs ws : List Value}, VRs S X f h xs vs -> VRs S X f h ys ws -> VRs S X f h (xs ++ ys) (vs ++ ws)
 | [], _, [], _, _, b => b
 | x :: xs, ys, v :: vs, ws, a, b => by show VRs S X f h (x :: (xs ++ ys)) (v :: (vs ++ ws)); exact ⟨a.1, xW a.2 b⟩
 | [], _, _ :: _, _, a, _ => False.elim a
 | _ :: _, _, [], _, a, _ => False.elim a
theorem zBE : ∀ {xs : List V} {vs : List Value}, VRs S X f h xs vs -> ∀ n, VRs S X f h (xs.take n) (vs.take n)
 | [], [], _, n => by rw [List.take_nil, List.take_nil]; exact True.intro
 | x :: xs, v :: vs, r, 0 => True.intro
 | x :: xs, v :: vs, r, n + 1 => by simp only [List.take_succ_cons]; exact ⟨r.1, zBE r.2 n⟩
 | [], _ :: _, a, _ => False.elim a
 | _ :: _, [], a, _ => False.elim a
theorem zBD : ∀ {xs : List V} {vs : List Value}, VRs S X f h xs vs -> ∀ n, VRs S X f h (xs.drop n) (vs.drop n)
 | [], [], _, n => by rw [List.drop_nil, List.drop_nil]; exact True.intro
 | x :: xs, v :: vs, r, 0 => r
 | x :: xs, v :: vs, r, n + 1 => by simp only [List.drop_succ_cons]; exact zBD r.2 n
 | [], _ :: _, a, _ => False.elim a
 | _ :: _, [], a, _ => False.elim a
theorem zFv : ∀ {xs : List V} {vs : List Value}, VRs S X f h xs vs -> ∀ {i : Nat} {x : V} {v : Value}, VR S X f h x v -> VRs S X f h (xs.set i x) (vs.set i v)
 | [], [], _, n, _, _, _ => True.intro
 | x :: xs, v :: vs, r, 0, _, _, q => by simp only [List.set_cons_zero]; exact ⟨q, r.2⟩
 | x :: xs, v :: vs, r, n + 1, _, _, q => by simp only [List.set_cons_succ]; exact ⟨r.1, zFv r.2 q⟩
 | [], _ :: _, a, _, _, _, _ => False.elim a
 | _ :: _, [], a, _, _, _, _ => False.elim a
theorem zGQ : ∀ {xs : List V} {vs : List Value} {l : List Int}, ints? xs = some l -> VRs S X f h xs vs -> ∃ ys : List (Int × Tok), vs = ys.map (fun p => .int p.1 p.2) /\ ys.map (·.1) = l
 | [], [], l, e, _ => by simp [ints?] at e; subst e; exact ⟨[], rfl, rfl⟩
 | x :: xs, v :: vs, l, e, r => by
  simp only [ints?, List.mapM_cons] at e
  cases x with
  | int i =>
   obtain ⟨t, rfl⟩ := (r.1 : ∃ t, v = .int i t)
   have e : (xs.mapM intOf? >>= fun l' => some (i :: l')) = some l := e
   cases hl : xs.mapM intOf? with
   | none => rw [hl] at e; exact zB e
   | some l' =>
    rw [hl] at e
    have e : i :: l' = l := Option.some.inj e
    obtain ⟨ys, e1, e2⟩ := zGQ (l := l') hl r.2
    subst e
    exact ⟨(i, t) :: ys, by simp [e1], by simp [e2]⟩
  | _ => exact zB e
 | [], _ :: _, _, _, a => False.elim a
 | _ :: _, [], _, _, a => False.elim a
theorem zDl : ∀ {xs : List V} {vs : List Value} {l : List Bool}, bools? xs = some l -> VRs S X f h xs vs -> vs = l.map .bool
 | [], [], l, e, _ => by simp [bools?] at e; subst e; rfl
 | x :: xs, v :: vs, l, e, r => by
  simp only [bools?, List.mapM_cons] at e
  cases x with
  | bool i =>
   obtain rfl := (r.1 : v = .bool i)
   have e : (xs.mapM boolOf? >>= fun l' => some (i :: l')) = some l := e
   cases hl : xs.mapM boolOf? with
   | none => rw [hl] at e; exact zB e
   | some l' =>
    rw [hl] at e
    have e : i :: l' = l := Option.some.inj e
    subst e
    rw [List.map_cons, zDl (l := l') hl r.2]
  | _ => exact zB e
 | [], _ :: _, _, _, a => False.elim a
 | _ :: _, [], _, _, a => False.elim a
theorem zGj : ∀ {xs : List V} {vs : List Value} {l : List Str}, strs? xs = some l -> VRs S X f h xs vs -> ∃ ys : List (Str × Tok), vs = ys.map (fun p => .str p.1 p.2) /\ ys.map (·.1) = l /\ ∀ x ∈ l, x.length <= LIM /\ PyData.strOk x = true
 | [], [], l, e, _ => by simp [strs?] at e; subst e; exact ⟨[], rfl, rfl, fun _ h => nomatch h⟩
 | x :: xs, v :: vs, l, e, r => by
  simp only [strs?, List.mapM_cons] at e
  cases x with
  | str i =>
   obtain ⟨⟨t, rfl⟩, q⟩ := (r.1 : (∃ t, v = .str i t) /\ i.length <= LIM /\ PyData.strOk i = true)
   have e : (xs.mapM strOf? >>= fun l' => some (i :: l')) = some l := e
   cases hl : xs.mapM strOf? with
   | none => rw [hl] at e; exact zB e
   | some l' =>
    rw [hl] at e
    have e : i :: l' = l := Option.some.inj e
    obtain ⟨ys, e1, e2, e3⟩ := zGj (l := l') hl r.2
    subst e
    exact ⟨(i, t) :: ys, by simp [e1], by simp [e2], fun x hx => (List.mem_cons.mp hx).elim (fun e => e ▸ q) (e3 x)⟩
  | _ => exact zB e
 | [], _ :: _, _, _, a => False.elim a
 | _ :: _, [], _, _, a => False.elim a
end
end Mine
end

section
namespace Mine
open PySem PyProof.Rows
theorem yM : LIM <= sizeLine := by decide
theorem xS {n : Nat} (h : n <= LIM) : (n : Int) < 2 ^ 63 := by have : LIM = 1048576 := rfl; omega
theorem zFw (vs ws : Array Value) : (vs.toList ++ ws.toList).toArray = vs ++ ws := by apply Array.toList_inj.mp; simp
theorem zBJ {a : Int} (h : zk a = true) : Builtin.Int.intBits a <= 64 := by
 have h' : a.natAbs < 2 ^ 64 := of_decide_eq_true h
 unfold Builtin.Int.intBits
 split
 ·omega
 ·rename_i hz
  have hne : a.natAbs ≠ 0 := by intro e; apply hz; simp; omega
  have := (Nat.log2_lt hne).mpr h'
  omega
section
variable {S : zO} {A : Around} {X : List Addr} {f : List Loc} {U : Sto} {s : Shared} {E : Value -> Shared -> Prop}
noncomputable def PE (S : zO) (X : List Addr) (f : List Loc) (s : Shared) (x : V) (v : Value) (s' : Shared) : Prop := Ext s s' /\ VR S X f s'.heap x v /\ ∀ xs, x = .lst xs -> NewL S X f s s' xs v
theorem PE.int {i : Int} {t tk : Nat} : PE S X f s (.int i) (.int i t) { s with toks := tk } := ⟨.toks s tk, ⟨t, rfl⟩, fun _ e => by cases e⟩
theorem PE.bool {b : Bool} {tk : Nat} : PE S X f s (.bool b) (.bool b) { s with toks := tk } := ⟨.toks s tk, rfl, fun _ e => by cases e⟩
theorem PE.bool0 {b : Bool} : PE S X f s (.bool b) (.bool b) s := ⟨.refl s, rfl, fun _ e => by cases e⟩
theorem PE.str {x : Str} {t tk : Nat} (h1 : x.length <= LIM) (h2 : PyData.strOk x = true) : PE S X f s (.str x) (.str x t) { s with toks := tk } := ⟨.toks s tk, ⟨⟨t, rfl⟩, h1, h2⟩, fun _ e => by cases e⟩
theorem PE.intH {i : Int} {t : Tok} {h' : Heap} {tk : Nat} (k : ∀ b o, s.heap.get? b = some o -> h'.get? b = some o) : PE S X f s (.int i) (.int i t) { s with heap := h', toks := tk } := ⟨.heap k, ⟨t, rfl⟩, fun _ e => by cases e⟩
theorem PE.boolH {i : Bool} {h' : Heap} {tk : Nat} (k : ∀ b o, s.heap.get? b = some o -> h'.get? b = some o) : PE S X f s (.bool i) (.bool i) { s with heap := h', toks := tk } := ⟨.heap k, rfl, fun _ e => by cases e⟩
theorem zy {i : Int} {v : Value} {h : Heap} (r : VR S X f h (.int i) v) : ∃ t, v = .int i t := by exact r
theorem wz {i : Bool} {v : Value} {h : Heap} (r : VR S X f h (.bool i) v) : v = .bool i := by exact r
theorem yq {i : Str} {v : Value} {h : Heap} (r : VR S X f h (.str i) v) : (∃ t, v = .str i t) /\ i.length <= LIM /\ PyData.strOk i = true := by exact r
theorem zDY {v : Value} {h : Heap} (r : VR S X f h .none v) : v = .none := by exact r
theorem jI {xs : List V} {v : Value} {h : Heap} (r : VR S X f h (.tup xs) v) : SeqAt X f (IsT h) (VRs S X f h xs) xs.length v := by exact r
theorem ww {x y : Str} (hx : PyData.strOk x = true) (hy : PyData.strOk y = true) : PyData.strOk (x ++ y) = true := by
 show (x.cps ++ y.cps).all _ = true
 rw [Array.all_append]
 exact Bool.and_eq_true_iff.mpr ⟨hx, hy⟩
theorem length_append (x y : Str) : (x ++ y).length = x.length + y.length := by show (x.cps ++ y.cps).size = _; simp [Str.length]
theorem zY {xs : List V} {vs : Array Value} {h : Heap} (r : VRs S X f h xs vs.toList) : vs.size = xs.length := by
 have := wC r; simpa using this.symm
theorem zAI {vs : List Value} {xs : List V} {tk : Nat} (L : Lk S X f U s.heap) (r : VRs S X f s.heap xs vs) (hl : xs.length <= LIM) :
  PE S X f s (.lst xs) (.ref s.heap.objs.size) { s with heap := s.heap.push { cls := .type "list", data := .seq vs.toArray }, toks := tk } := by
 have e : Ext s { s with heap := s.heap.push { cls := .type "list", data := .seq vs.toArray }, toks := tk } := .heap fun b o h => Heap.get?_push_of_some _ h
 have nl : NewL S X f s { s with heap := s.heap.push { cls := .type "list", data := .seq vs.toArray }, toks := tk } xs (.ref s.heap.objs.size) :=
  ⟨_, vs.toArray, 0, rfl, yb _, Heap.get?_push_size _ rfl, by simpa using r, hl⟩
 exact ⟨e, nl.vr L e, fun ys q => by cases q; exact nl⟩
theorem zAJ {vs : List Value} {xs : List V} {tk : Nat} (L : Lk S X f U s.heap) (r : VRs S X f s.heap xs vs) (hl : xs.length <= LIM) :
  PE S X f s (.tup xs) (.ref s.heap.objs.size) { s with heap := s.heap.push { cls := .type "tuple", data := .seq vs.toArray }, toks := tk } := by
 have e : Ext s { s with heap := s.heap.push { cls := .type "tuple", data := .seq vs.toArray }, toks := tk } := .heap fun b o h => Heap.get?_push_of_some _ h
 refine ⟨e, ?_, fun ys q => by cases q⟩
 exact ⟨_, vs.toArray, 0, rfl, L.new (yb _), Heap.get?_push_size _ rfl, by simpa using e.vrs r, hl⟩
theorem zF1 {op : Operator} {o : P2} (ho : zBv op = some o) {i j : Int} {x : V} {t u : Tok} (e : ev2 o U (.int i) (.int j) = some x) :
  wpAny (model S.prog S.w) A (binaryOp op (.int i t) (.int j u)) (PE S X f s x) E s := by
 cases op <;> cases ho
 ·cases e; exact PyProof.Rows.add_int .int
 ·cases e; exact PyProof.Rows.sub_int .int
 ·delta ev2 at e; dsimp only at e
  split at e
  ·rename_i h
   cases e
   exact PyProof.Rows.mul_int .int ((Bool.or_eq_true_iff.mp h).elim (fun h => .of_left (zBJ h)) fun h => .of_right (zBJ h))
  ·first | exact zB e | exact zF e | cases e
 ·delta ev2 at e; dsimp only at e
  split at e
  ·first | exact zB e | exact zF e | cases e
  ·rename_i h
   cases e
   exact PyProof.Rows.mod_int (by simpa using h) .int
 ·delta ev2 at e; dsimp only at e
  split at e
  ·rename_i h
   cases e
   simp only [Bool.and_eq_true, beq_iff_eq, decide_eq_true_eq] at h
   obtain ⟨⟨rfl, h1⟩, h2⟩ := h
   exact pow_int_small h1 (by omega) (by decide) .int
  ·first | exact zB e | exact zF e | cases e
 ·delta ev2 at e; dsimp only at e
  split at e
  ·first | exact zB e | exact zF e | cases e
  ·rename_i h
   cases e
   simp only [Bool.or_eq_true, beq_iff_eq, decide_eq_true_eq, not_or, Nat.not_le] at h
   exact floordiv_int h.1 .int (.inl (PyProof.noPylong_small h.2))
theorem zGz {a b x : V} {va vb : Value} (L : Lk S X f U s.heap) (e : ev2 .add U a b = some x) (ra : VR S X f s.heap a va) (rb : VR S X f s.heap b vb) :
  wpAny (model S.prog S.w) A (binaryOp .Add va vb) (PE S X f s x) E s := by
 have lists : ∀ {xs ys : List V}, listOf? U a = some xs -> listOf? U b = some ys -> xs.length + ys.length <= LIM -> wpAny (model S.prog S.w) A (binaryOp .Add va vb) (PE S X f s (.lst (xs ++ ys))) E s := by
  intro xs ys h1 h2 h3
  obtain ⟨p, vs, n, rfl, il, r1, l1⟩ := yE L h1 ra
  obtain ⟨q, ws, m, rfl, il', r2, l2⟩ := yE L h2 rb
  have z1 := zY r1
  have z2 := zY r2
  refine P.add_list il il' ?_ (by rw [z1, z2]; exact Nat.le_trans h3 yM)
  have := zAI (tk := s.toks) L (xW r1 r2) (by simpa using h3)
  rwa [zFw] at this
 have gen : ((listOf? U a).bind fun xs => (listOf? U b).bind fun ys => if xs.length + ys.length <= LIM then some (V.lst (xs ++ ys)) else none) = some x -> wpAny (model S.prog S.w) A (binaryOp .Add va vb) (PE S X f s x) E s := by
  intro e
  cases h1 : listOf? U a with
  | none => first | (rw [h1] at e; exact zB e) | simp [h1] at e
  | some xs =>
   cases h2 : listOf? U b with
   | none => first | (rw [h1, h2] at e; exact zB e) | (rw [h1, Option.bind_some, h2] at e; exact zB e) | simp [h1, h2] at e
   | some ys =>
    simp only [h1, h2, Option.bind_some] at e
    split at e
    ·rename_i h3; cases e; exact lists h1 h2 h3
    ·first | exact zB e | exact zF e | cases e
 cases a with
 | int i =>
  cases b with
  | int j =>
   obtain ⟨t, rfl⟩ := zy ra
   obtain ⟨u, rfl⟩ := zy rb
   exact zF1 rfl e
  | _ => first | exact zB e | exact zF e | cases e
 | str i =>
  cases b with
  | str j =>
   obtain ⟨⟨t, rfl⟩, a1, a2⟩ := yq ra
   obtain ⟨⟨u, rfl⟩, b1, b2⟩ := yq rb
   delta ev2 at e; dsimp only at e
   split at e
   ·rename_i h
    cases e
    refine PyProof.Rows.add_str (fun t' tk => .str ?_ (ww a2 b2)) (Nat.le_trans h (by decide))
    rw [length_append]; exact Nat.le_trans h (by decide)
   ·first | exact zB e | exact zF e | cases e
  | _ => first | exact zB e | exact zF e | cases e
 | tup xs =>
  cases b with
  | tup ys =>
   obtain ⟨p, vs, n, rfl, q1, il, r1, l1⟩ := jI ra
   obtain ⟨q, ws, m, rfl, q2, il', r2, l2⟩ := jI rb
   delta ev2 at e; dsimp only at e
   split at e
   ·rename_i h3
    cases e
    have z1 := zY r1
    have z2 := zY r2
    by_cases hv : vs = #[]
    ·subst hv
     have : xs = [] := List.length_eq_zero_iff.mp (by simpa using z1.symm)
     subst this
     refine concat_meets ⟨_, il, rfl⟩ ⟨_, il', rfl⟩ noFill_tuple_add seq_tuple_add PySem.F.slot_tuple_add PySem.F.entry_tuple_add (PySem.F.args_tuple_add_2 _ _) (tuple_addW0 p q #[] ws n m none none #[] #[] (by simp)) ⟨il, il', ?_⟩
     exact ⟨.refl s, rb, fun _ q => by cases q⟩
    ·by_cases hw : ws = #[]
     ·subst hw
      have : ys = [] := List.length_eq_zero_iff.mp (by simpa using z2.symm)
      subst this
      refine concat_meets ⟨_, il, rfl⟩ ⟨_, il', rfl⟩ noFill_tuple_add seq_tuple_add PySem.F.slot_tuple_add PySem.F.entry_tuple_add (PySem.F.args_tuple_add_2 _ _) (tuple_addW1 p q vs #[] n m none none #[] #[] (by simpa using hv) (by simp)) ⟨il, il', ?_⟩
      rw [List.append_nil]
      exact ⟨.refl s, ra, fun _ q => by cases q⟩
     ·refine P.add_tuple il il' (by simpa using hv) (by simpa using hw) ?_ (by rw [z1, z2]; exact Nat.le_trans h3 yM)
      have := zAJ (tk := s.toks) L (xW r1 r2) (by simpa using h3)
      rwa [zFw] at this
   ·first | exact zB e | exact zF e | cases e
  | _ => first | exact zB e | exact zF e | cases e
 | lst xs => exact gen e
 | ref n => exact gen e
 | _ => first | exact zB e | exact zF e | cases e
theorem zLZ {op : CmpOp} {o : P2} (ho : wN op = some o) (hn : op ≠ .Eq /\ op ≠ .NotEq /\ op ≠ .In /\ op ≠ .NotIn) {i j : Int} {x : V} {t u : Tok} (e : ev2 o U (.int i) (.int j) = some x) :
  wpAny (model S.prog S.w) A (compareOp op (.int i t) (.int j u)) (PE S X f s x) E s := by
 cases op <;> cases ho
 ·exact absurd rfl hn.1
 ·exact absurd rfl hn.2.1
 ·cases e; exact P.lt_int .bool0
 ·cases e; exact P.le_int .bool0
 ·cases e; exact P.gt_int .bool0
 ·cases e; exact P.ge_int .bool0
 ·exact absurd rfl hn.2.2.1
 ·exact absurd rfl hn.2.2.2
theorem kK {g : Int -> Int -> Option V} {a b x : V} (e : (match a, b with | .int x, .int y => g x y | _, _ => none) = some x) : ∃ i j, a = .int i /\ b = .int j := by
 cases a with
 | int i =>
  cases b with
  | int j => exact ⟨_, _, rfl, rfl⟩
  | _ => first | exact zB e | exact zF e | cases e
 | _ => first | exact zB e | exact zF e | cases e
theorem zJV {op : CmpOp} {o : P2} (ho : wN op = some o) (hn : op ≠ .Eq /\ op ≠ .NotEq /\ op ≠ .In /\ op ≠ .NotIn) {a b x : V} (e : ev2 o U a b = some x) : ∃ i j, a = .int i /\ b = .int j := by
 cases op <;> cases ho
 ·exact absurd rfl hn.1
 ·exact absurd rfl hn.2.1
 all_goals first
  | exact absurd rfl hn.2.2.1
  | exact absurd rfl hn.2.2.2
  | exact kK e
theorem yY {a : V} {va : Value} {b : Bool} (L : Lk S X f U s.heap) (e : truthy U a = some b) (ra : VR S X f s.heap a va) :
  wpAny (model S.prog S.w) A (PySem.truthy va) (fun c s' => c = b /\ Ext s s') E s := by
 cases a with
 | none => obtain rfl := zDY ra; cases e; exact wpAny_pure ⟨rfl, .refl s⟩
 | bool c => obtain rfl := wz ra; cases e; exact wpAny_truthy_bool ⟨rfl, .refl s⟩
 | int i => obtain ⟨t, rfl⟩ := zy ra; cases e; exact P.truthy_int ⟨rfl, .refl s⟩
 | str x =>
  obtain ⟨⟨t, rfl⟩, h1, h2⟩ := yq ra
  cases e
  refine P.truthy_str (by have := xS h1; omega) ⟨?_, .toks s _⟩
  cases h : x.length <;> simp
  omega
 | tup xs =>
  obtain ⟨p, vs, n, rfl, q1, il, r1, l1⟩ := jI ra
  cases e
  have z := zY r1
  refine PyProof.Rows.truthy_tuple ⟨_, il, rfl, n, rfl⟩ (by rw [z]; exact xS l1) ⟨?_, .toks s _⟩
  cases xs <;> simp_all [Array.isEmpty]
 | lst xs =>
  cases e
  obtain ⟨p, vs, n, rfl, il, r1, l1⟩ := yE L (x := .lst xs) rfl ra
  have z := zY r1
  refine wpAny_truthy_list (IsL.isList il) (by rw [z]; exact xS l1) ⟨?_, .toks s _⟩
  cases xs <;> simp_all [Array.isEmpty]
 | ref k =>
  cases ho : U[k]? with
  | none => have e : (match U[k]? with | some (.list xs) => some (!xs.isEmpty) | _ => none) = some _ := e; rw [ho] at e; exact zB e
  | some ob =>
  have e : (match U[k]? with | some (.list xs) => some (!xs.isEmpty) | _ => none) = some _ := e
  rw [ho] at e
  cases ob with
  | list ys =>
   cases e
   obtain ⟨p, vs, n, rfl, il, r1, l1⟩ := yE L (x := .ref k) (xs := ys) (by show xT U[k]? = some ys; rw [ho]; rfl) ra
   have z := zY r1
   refine wpAny_truthy_list (IsL.isList il) (by rw [z]; exact xS l1) ⟨?_, .toks s _⟩
   cases ys <;> simp_all [Array.isEmpty]
  | _ => exact zB e
 | undef => first | exact zB e | exact zF e | cases e
 | exc _ => first | exact zB e | exact zF e | cases e
 | parts => first | exact zB e | exact zF e | cases e
theorem zLr {v : Value} {xs : List V} {a : Addr} {vs : Array Value} {n : Nat} (hv : v = .ref a) (il : IsL s.heap a vs n \/ IsT s.heap a vs n) (r : VRs S X f s.heap xs vs.toList) (l : xs.length <= LIM) :
  wpAny (model S.prog S.w) A (call (.builtin "len") [v]) (PE S X f s (.int xs.length)) E s := by
 subst hv
 have z := zY r
 rcases il with il | il
 ·have := Calls.call_len_list (prog := S.prog) (w := S.w) (A := A) (E := E) (Q := PE S X f s (.int xs.length)) (IsL.isList il) (by rw [z]; exact xS l) (by rw [z]; exact .int)
  exact this
 ·exact PyProof.Rows.len_tuple ⟨_, il, rfl, n, rfl⟩ (by rw [z]; exact xS l) (by rw [z]; exact .int)
theorem zHS {a x : V} {va : Value} (L : Lk S X f U s.heap) (e : ev1 .len U a = some x) (ra : VR S X f s.heap a va) :
  wpAny (model S.prog S.w) A (call (.builtin "len") [va]) (PE S X f s x) E s := by
 have gen : ∀ {xs : List V}, yr U a = some xs -> x = .int xs.length -> wpAny (model S.prog S.w) A (call (.builtin "len") [va]) (PE S X f s x) E s := by
  intro xs h1 h2
  obtain ⟨p, vs, n, h3, il, r1, l1⟩ := vJ L h1 ra
  rw [h2]; exact zLr h3 il r1 l1
 cases a with
 | str y =>
  obtain ⟨⟨t, rfl⟩, h1, h2⟩ := yq ra
  cases e
  exact PyProof.Rows.len_str (by have := xS h1; omega) .int
 | tup xs => cases e; exact gen rfl rfl
 | lst xs => cases e; exact gen rfl rfl
 | ref k =>
  delta ev1 at e; dsimp only at e
  split at e
  ·rename_i ys ho
   cases e
   exact gen (xs := ys) (by show (match U[k]? with | some (.list xs) => some xs | _ => none) = some ys; rw [ho]) rfl
  ·first | exact zB e | exact zF e | cases e
 | _ => first | exact zB e | exact zF e | cases e
theorem vM {n : Nat} {i : Int} {k : Nat} (h : zd n i = some k) : seqIndex? i n = some k /\ k < n /\ (0 <= i -> k = i.toNat) /\ (i < 0 -> 0 <= i + n /\ k = (i + n).toNat) := by
 unfold zd at h
 split at h
 ·rename_i h0
  split at h
  ·rename_i h1
   cases h
   exact ⟨seqIndex_of h0 (by omega), h1, fun _ => rfl, fun h => absurd h (Int.not_lt.mpr h0)⟩
  ·first | exact zB h | exact zF h | cases h
 ·rename_i h0
  split at h
  ·rename_i h1
   cases h
   exact ⟨seqIndex_neg (by omega) (by omega), by omega, fun h => absurd h h0, fun _ => ⟨h1, rfl⟩⟩
  ·first | exact zB h | exact zF h | cases h
theorem zHQ {n k : Nat} {i : Int} (hl : (n : Int) < 2 ^ 63) (h2 : k < n) (h3 : 0 <= i -> k = i.toNat) (h4 : i < 0 -> 0 <= i + n /\ k = (i + n).toNat) : -(2 ^ 63) <= i /\ i < 2 ^ 63 := by omega
theorem zHZ {n : Nat} {i : Int} (h : 0 <= i + n) : -(n : Int) <= i := by omega
theorem zEG {xs : List V} {a : Addr} {vs : Array Value} {n : Nat} {i : Int} {t : Tok} {k : Nat} {x : V} (il : IsL s.heap a vs n \/ IsT s.heap a vs n) (r : VRs S X f s.heap xs vs.toList) (l : xs.length <= LIM)
  (hk : zd xs.length i = some k) (hx : xs[k]? = some x) :
  wpAny (model S.prog S.w) A (getItem (.ref a) (.int i t)) (fun v s' => s' = s /\ VR S X f s.heap x v) E s := by
 have z := zY r
 obtain ⟨v, hv, rv⟩ := kL r hx
 rw [Array.getElem?_toList] at hv
 obtain ⟨h1, h2, h3, h4⟩ := vM hk
 have hb := zHQ (xS l) h2 h3 h4
 rcases il with il | il
 ·by_cases h0 : 0 <= i
  ·rw [h3 h0] at hv
   exact wpAny_getItem_list (IsL.isList il) h0 hb.2 hv ⟨rfl, rv⟩
  ·obtain ⟨h5, h6⟩ := h4 (Int.not_le.mp h0)
   rw [h6] at hv
   exact wpAny_getItem_list_neg (IsL.isList il) (Int.not_le.mp h0) (by rw [z]; exact zHZ h5) hb.1 (by rw [z]; exact hv) ⟨rfl, rv⟩
 ·exact PyProof.Rows.getItem_tuple ⟨_, il, rfl, n, rfl⟩ hb.1 hb.2 (by rw [z]; exact h1) hv ⟨rfl, rv⟩
end
end Mine
end

section
namespace Mine
open PySem PyProof.Rows
theorem zDs (n : Nat) (i : Int) : ((if i < 0 then (i + n).toNat else min i.toNat n : Nat) : Int) = if i < 0 then max (i + n) 0 else min i n := by
 split
 ·rw [Int.max_comm]; exact Int.toNat_eq_max (i + n) |>.trans (Int.max_comm _ _)
 ·rename_i h
  rw [Lean.Omega.Int.ofNat_min, Int.toNat_of_nonneg (Int.not_lt.mp h)]
theorem zF9 (n : Nat) (i : Int) : (if i < 0 then (i + n).toNat else min i.toNat n) = (max 0 (min (if i < 0 then i + n else i) n)).toNat := by
 split
 ·rename_i h
  rw [Int.min_eq_left (by omega), Int.max_comm, <- Int.toNat_eq_max, Int.toNat_natCast]
 ·rename_i h
  have h := Int.not_lt.mp h
  have e : (i : Int) = (i.toNat : Int) := (Int.toNat_of_nonneg h).symm
  rw [Int.max_eq_right (Int.le_min.mpr ⟨h, Int.natCast_nonneg n⟩)]
  generalize i.toNat = k at e
  subst e
  rw [<- Lean.Omega.Int.ofNat_min, Int.toNat_natCast]
theorem zE5 (n : Nat) (lo : Option Int) : zV n lo = lo.elim 0 (clipAt n) := by
 cases lo with
 | none => rfl
 | some i =>
  exact zF9 n i
theorem zHB (n : Nat) (hi : Option Int) : yc n hi = hi.elim n (clipAt n) := by
 cases hi with
 | none => rfl
 | some i =>
  exact zF9 n i
theorem zAh {α : Type} (xs : List α) (lo hi : Option Int) : yR xs lo hi = (xs.drop (zV xs.length lo)).take (yc xs.length hi - zV xs.length lo) := by
 unfold yR; rw [List.drop_take]
theorem jH {α : Type} (xs : List α) (lo hi : Option Int) : (yR xs lo hi).length <= xs.length := by
 unfold yR; simp; omega
theorem zC0 (lo hi : Option Int) (n : Nat) : Builtin.Slice.sliceAdjust lo hi 1 (n : Int) = ((zV n lo : Int), (yc n hi : Int)) := by
 have h1 : ¬ ((1 : Int) < 0) := by omega
 unfold Builtin.Slice.sliceAdjust
 simp only [h1, if_false]
 congr 1
 ·cases lo with
  | none => rfl
  | some i => exact (zDs n i).symm
 ·cases hi with
  | none => rfl
  | some i => exact (zDs n i).symm
theorem zDN (a b : Nat) : Builtin.Slice.slicePlaces (a : Int) (b : Int) 1 = b - a := by
 unfold Builtin.Slice.slicePlaces
 have h1 : (1 : Int) > 0 := by omega
 simp only [h1, if_true, Int.ediv_one]
 split <;> omega
theorem zFb (xs : Array Value) (a k : Nat) : ((List.range k).filterMap fun (i : Nat) => xs[((a : Int) + (i : Int) * 1).toNat]?).toArray = ((xs.toList.drop a).take k).toArray := by
 have e : (fun (i : Nat) => xs[((a : Int) + (i : Int) * 1).toNat]?) = fun i => xs[a + i]? := by
  funext i
  have : ((a : Int) + (i : Int) * 1).toNat = a + i := by omega
  rw [this]
 rw [e]
 have := pick_run xs a k
 rw [List.filterMap_map] at this
 have e2 : ((fun x => xs[x]?) ∘ fun x => a + x) = fun k => xs[a + k]? := rfl
 rw [e2] at this
 rw [this]
section
variable {S : zO} {A : Around} {X : List Addr} {f : List Loc} {U : Sto} {s : Shared} {E : Value -> Shared -> Prop}
theorem ko {v : Value} {k : Option Int} {Q : Option Int -> Shared -> Prop} (hv : IsPart v k) (h : Q k s) : wpAny (model S.prog S.w) A (Builtin.Slice.slicePartIndex v) Q E s := by
 cases hv with
 | none => exact slicePart_none h
 | int i t => exact slicePart_int h
theorem jG {sl : Addr} {vl vu : Value} {lo hi : Option Int} {n : Nat} {Q : Int × Int × Nat -> Shared -> Prop} (hs : s.heap.IsSliceOf sl vl vu .none) (pl : IsPart vl lo) (pu : IsPart vu hi)
  (h : Q ((zV n lo : Int), 1, yc n hi - zV n lo) s) :
  wpAny (model S.prog S.w) A (Builtin.Slice.sliceApplied (.ref sl) (pure (n : Int))) Q E s := by
 obtain ⟨os, hos, hcs, hds⟩ := id hs
 unfold Builtin.Slice.sliceApplied Builtin.Slice.sliceFields
 refine wpAny_bind (wpAny_bind (wpAny_field hos hds (x := vl) rfl (wpAny_bind (wpAny_field hos hds (x := vu) rfl (wpAny_bind (wpAny_field hos hds (x := .none) rfl (wpAny_pure ?_)))))))
 refine wpAny_bind (slicePart_none ?_)
 show wpAny _ _ (if ((1 : Int) == 0) = true then _ else _) _ _ s
 rw [if_neg (by decide)]
 refine wpAny_bind (ko pl (wpAny_bind (ko pu (wpAny_bind (wpAny_pure ?_)))))
 show wpAny _ _ (match Builtin.Slice.sliceAdjust lo hi 1 (n : Int) with | (lo, hi) => pure (lo, (1 : Int), Builtin.Slice.slicePlaces lo hi 1)) _ _ s
 rw [zC0]
 show wpAny _ _ (pure ((zV n lo : Int), (1 : Int), Builtin.Slice.slicePlaces (zV n lo : Int) (yc n hi : Int) 1)) _ _ s
 rw [zDN]
 exact wpAny_pure h
theorem jz {t sl : Addr} {xs : List V} {vs : Array Value} {n : Nat} {vl vu : Value} {lo hi : Option Int} (L : Lk S X f U s.heap) (q : t ∉ addrs f /\ t ∉ X) (il : IsT s.heap t vs n) (r : VRs S X f s.heap xs vs.toList) (l : xs.length <= LIM)
  (hs : s.heap.IsSliceOf sl vl vu .none) (pl : IsPart vl lo) (pu : IsPart vu hi) :
  wpAny (model S.prog S.w) A (getItem (.ref t) (.ref sl)) (PE S X f s (.tup (yR xs lo hi))) E s := by
 have ht : IsTup s.heap t vs := ⟨_, il, rfl, n, rfl⟩
 have z := zY r
 obtain ⟨os, hos, hcs, hds⟩ := id hs
 have hTs : s.TypeIs (.ref sl) "slice" := ⟨os, hos, hcs⟩
 unfold getItem
 try with_reducible refine wpAny_holding ?_
 first | refine wpAny_bind (wpAny_pure ?_) | skip
 refine wpAny_bind (wpAny_sequenceKey ht.typeIs (by decide) ?_)
 refine wpAny_bind (wpAny_callSpecial?_slot (name := Str.ofString "__getitem__") ht.typeIs slot_tuple_getitem
  (wpAny_call_entry slot_tuple_getitem ht.typeIs entry_tuple_getitem ?_ (args_tuple_getitem _ _)))
 show wpAny _ _ (Builtin.Tuple.tupleItemsOf (.ref t) >>= _) _ _ s
 refine wpAny_bind (tupleItemsOf_ ht ?_)
 refine wpAny_bind (wpAny_typeOf hTs ?_)
 rw [if_pos (by decide)]
 refine wpAny_bind (jG hs pl pu ?_)
 show wpAny _ _ (if ((zV vs.size lo : Int) == 0 && (1 : Int) == 1 && (yc vs.size hi - zV vs.size lo) == vs.size) = true then _ else _) _ _ s
 by_cases hw : ((zV vs.size lo : Int) == 0 && (1 : Int) == 1 && (yc vs.size hi - zV vs.size lo) == vs.size) = true
 ·rw [if_pos hw]
  simp only [Bool.and_eq_true, beq_iff_eq] at hw
  have hz : zV vs.size lo = 0 := by have := hw.1.1; omega
  have he : yR xs lo hi = xs := by
   rw [zAh, <- z, hz, List.drop_zero, List.take_of_length_le]
   have := hw.2; rw [hz] at this; omega
  rw [he]
  have fin : PE S X f s (.tup xs) (.ref t) s := ⟨.refl s, ⟨t, vs, n, rfl, q, il, r, l⟩, fun _ q => by cases q⟩
  unfold Builtin.Tuple.tupleIsExact
  refine wpAny_bind (wpAny_bind (wpAny_typeOf ht.typeIs (wpAny_pure ?_)))
  rw [if_pos (by decide)]
  exact wpAny_bind (wpAny_rule (wpAny_pure ⟨_, rfl, wpAny_pure fin⟩))
 ·rw [if_neg hw, zFb]
  have hd : ((vs.toList.drop (zV vs.size lo)).take (yc vs.size hi - zV vs.size lo)) = yR vs.toList lo hi := by rw [zAh]; simp
  rw [hd]
  have hdrop : sizeOk (.seq (yR vs.toList lo hi).toArray) := by
   show (yR vs.toList lo hi).toArray.size <= sizeLine
   rw [List.size_toArray]
   have := jH vs.toList lo hi
   have h2 : vs.toList.length = xs.length := by simpa using z
   have := yM
   omega
  have rr : VRs S X f s.heap (yR xs lo hi) (yR vs.toList lo hi) := by
   unfold yR
   have h2 : vs.toList.length = xs.length := by simpa using z
   rw [h2]
   exact zBD (zBE r _) _
  have h := zAJ (tk := s.toks) L rr (Nat.le_trans (jH xs lo hi) l)
  first
   | exact wpAny_bind (m := Builtin.Tuple.tupleExact _) (wpAny_newObj_type (wpAny_pure ⟨_, rfl, wpAny_pure h⟩) hdrop)
   | exact wpAny_bind (m := Builtin.Tuple.tupleExact _) (wpAny_newObj_type (wpAny_bind (wpAny_pure (wpAny_pure ⟨_, rfl, wpAny_pure h⟩))) hdrop)
   | exact wpAny_bind (wpAny_bind (m := Builtin.Tuple.tupleExact _) (wpAny_newObj_type (wpAny_pure (wpAny_pure ⟨_, rfl, wpAny_pure h⟩)) hdrop))
   | exact wpAny_bind (wpAny_bind (m := Builtin.Tuple.tupleExact _) (wpAny_newObj_type (wpAny_pure ⟨_, rfl, wpAny_pure h⟩) hdrop))
theorem zAH {t sl : Addr} {xs : List V} {vs : Array Value} {n : Nat} {vl vu : Value} {lo hi : Option Int} (L : Lk S X f U s.heap) (il : IsL s.heap t vs n) (r : VRs S X f s.heap xs vs.toList) (l : xs.length <= LIM)
  (hs : s.heap.IsSliceOf sl vl vu .none) (pl : IsPart vl lo) (pu : IsPart vu hi) :
  wpAny (model S.prog S.w) A (getItem (.ref t) (.ref sl)) (PE S X f s (.lst (yR xs lo hi))) E s := by
 have z := zY r
 refine wpAny_getItem_list_slice (IsL.isList il) hs pl pu .none (by simp) ?_ (by rw [z]; exact Nat.le_trans l yM)
 rw [slicePick_plain, <- zE5, <- zHB]
 have hd : ((vs.toList.drop (zV vs.size lo)).take (yc vs.size hi - zV vs.size lo)) = yR vs.toList lo hi := by rw [zAh]; simp
 rw [hd]
 have rr : VRs S X f s.heap (yR xs lo hi) (yR vs.toList lo hi) := by
  unfold yR
  have h2 : vs.toList.length = xs.length := by simpa using z
  rw [h2]
  exact zBD (zBE r _) _
 exact zAI (tk := s.toks) L rr (Nat.le_trans (jH xs lo hi) l)
end
end Mine
end

section
namespace Mine
open PySem PyProof.Rows
section
variable {S : zO} {A : Around} {X : List Addr} {f : List Loc} {U : Sto} {s : Shared} {E : Value -> Shared -> Prop}
theorem zEL (ys : List (Int × Tok)) : (ys.map fun p => Value.int p.1 p.2).toArray = intItems ys.toArray := by simp [intItems]
theorem zHM {a : V} {va : Value} {xs : List V} {l : List Int} (L : Lk S X f U s.heap) (h1 : listOf? U a = some xs) (h2 : ints? xs = some l) (ra : VR S X f s.heap a va) :
  ∃ (p : Addr) (ys : List (Int × Tok)), va = .ref p /\ s.heap.IsList p (intItems ys.toArray) /\ ys.map (·.1) = l := by
 obtain ⟨p, vs, n, rfl, il, r, _⟩ := yE L h1 ra
 obtain ⟨ys, e1, e2⟩ := zGQ h2 r
 refine ⟨p, ys, rfl, ?_, e2⟩
 rw [<- zEL, <- e1]
 exact IsL.isList il
theorem zI3 {a x : V} {va : Value} (hh : A.handled = none) (L : Lk S X f U s.heap) (e : ev1 .sum U a = some x) (ra : VR S X f s.heap a va) :
  wpAny (model S.prog S.w) A (call (.builtin "sum") [va]) (PE S X f s x) E s := by
 delta ev1 at e; dsimp only at e
 cases h1 : listOf? U a with
 | none => first | (rw [h1] at e; exact zB e) | simp [h1] at e
 | some xs =>
  cases h2 : ints? xs with
  | none => first | (rw [h1, h2] at e; exact zB e) | (rw [h1, Option.bind_some, h2] at e; exact zB e) | simp [h1, h2] at e
  | some l =>
   simp [h1, h2] at e
   subst e
   obtain ⟨p, ys, rfl, il, rfl⟩ := zHM L h1 h2 ra
   refine sum_intListG hh il fun h' tk t' k => ?_
   rw [preSum_eq, List.take_of_length_le (by simp)]
   exact .intH k
theorem zDW {a x : V} {va : Value} (L : Lk S X f U s.heap) (e : ev1 .toList U a = some x) (ra : VR S X f s.heap a va) :
  wpAny (model S.prog S.w) A (call (.type "list") [va]) (PE S X f s x) E s := by
 delta ev1 at e; dsimp only at e
 cases h1 : yr U a with
 | none => first | (rw [h1] at e; exact zB e) | simp [h1] at e
 | some xs =>
  simp [h1] at e
  subst e
  obtain ⟨p, vs, n, rfl, il, r, l⟩ := vJ L h1 ra
  have z := zY r
  have fin : ∀ (h' : Heap) (c' : Nat), (∀ b o', s.heap.get? b = some o' -> h'.get? b = some o') -> h'.get? s.heap.objs.size = some { cls := .type "list", data := .seq vs c' } -> PE S X f s (.lst xs) (.ref s.heap.objs.size) { s with heap := h' } := by
   intro h' c' k hl
   have e : Ext s { s with heap := h' } := .heap (t := s.toks) k
   have nl : NewL S X f s { s with heap := h' } xs (.ref s.heap.objs.size) := ⟨_, vs, c', rfl, yb _, hl, r, l⟩
   exact ⟨e, nl.vr L e, fun ys q => by cases q; exact nl⟩
  rcases il with il | il
  ·exact call_list_seq p (T := "list") (.inl rfl) il rfl rfl fin (by rw [z]; exact Nat.le_trans l yM)
  ·exact call_list_seq p (T := "tuple") (.inr rfl) il rfl rfl fin (by rw [z]; exact Nat.le_trans l yM)
theorem zHa {i : Int} {t : Tok} : wpAny (model S.prog S.w) A (unaryOp .USub (.int i t)) (PE S X f s (.int (-i))) E s := PyProof.Rows.neg_int .int
theorem zFT {i j : Int} {t u : Tok} (hh : A.handled = none) : wpAny (model S.prog S.w) A (call (.builtin "min") [.int i t, .int j u]) (PE S X f s (.int (if j < i then j else i))) E s := by
 refine min_two_ints hh fun h' tk k => ?_
 split <;> exact .intH k
theorem zFS {i j : Int} {t u : Tok} (hh : A.handled = none) : wpAny (model S.prog S.w) A (call (.builtin "max") [.int i t, .int j u]) (PE S X f s (.int (if j > i then j else i))) E s := by
 refine max_two_ints hh fun h' tk k => ?_
 split <;> exact .intH k
noncomputable def zE1 (h : Heap) (v : Value) (p : PyData) (d : Nat) : Prop := (∃ as, Reads h v p as) /\ p.canLay0 = true /\ p.depth <= d
noncomputable def zLF (h : Heap) (vs : List Value) (ps : List PyData) (d : Nat) : Prop := (∃ as, ReadsAll h vs ps as) /\ PyData.canLayAll0 ps = true /\ PyData.depthAll ps <= d
theorem zEp {h : Heap} {d : Nat} (ih : ∀ (x : V) (v : Value) (p : PyData), xU U d x = some p -> VR S X f h x v -> zE1 h v p d) : ∀ (xs : List V) (vs : List Value) (ps : List PyData), xs.mapM (xU U d) = some ps -> VRs S X f h xs vs -> zLF h vs ps d := by
 intro xs
 induction xs with
 | nil =>
  intro vs ps e r
  cases vs with
  | nil => cases e; exact ⟨⟨_, .nil⟩, rfl, Nat.zero_le _⟩
  | cons _ _ => exact False.elim r
 | cons x xs ih2 =>
  intro vs ps e r
  cases vs with
  | nil => exact False.elim r
  | cons v vs =>
   rw [List.mapM_cons] at e
   obtain ⟨p, h1, e⟩ := Option.bind_eq_some_iff.mp e
   obtain ⟨ps', h2, e⟩ := Option.bind_eq_some_iff.mp e
   cases e
   obtain ⟨⟨as, a1⟩, a2, a3⟩ := ih x v p h1 r.1
   obtain ⟨⟨bs, b1⟩, b2, b3⟩ := ih2 vs ps' h2 r.2
   exact ⟨⟨_, .cons a1 b1⟩, by rw [PyData.canLayAll0, a2, b2]; rfl, by rw [PyData.depthAll]; exact Nat.max_le.mpr ⟨a3, b3⟩⟩
theorem zBl {h : Heap} (L : Lk S X f U h) (d : Nat) : ∀ (x : V) (v : Value) (p : PyData), xU U d x = some p -> VR S X f h x v -> zE1 h v p d := by
 induction d with
 | zero => intro x v p e; cases e
 | succ d ih =>
  intro x v p e r
  have lists : ∀ {xs : List V}, listOf? U x = some xs -> (xs.mapM (xU U d)).map PyData.list = some p -> zE1 h v p (d + 1) := fun h1 e => by
   obtain ⟨a, vs, n, rfl, il, rs, _⟩ := yE L h1 r
   obtain ⟨ps, e1, rfl⟩ := Option.map_eq_some_iff.mp e
   obtain ⟨⟨as, r1⟩, r2, r3⟩ := zEp ih _ _ _ e1 rs
   exact ⟨⟨_, .list il rfl rfl r1⟩, r2, by rw [PyData.depth]; omega⟩
  cases x with
  | none => cases e; obtain rfl := zDY r; exact ⟨⟨_, .none⟩, rfl, Nat.zero_le _⟩
  | bool b => cases e; obtain rfl := wz r; exact ⟨⟨_, .bool b⟩, rfl, Nat.zero_le _⟩
  | int i => cases e; obtain ⟨t, rfl⟩ := zy r; exact ⟨⟨_, .int i t⟩, rfl, Nat.zero_le _⟩
  | str y => cases e; obtain ⟨⟨t, rfl⟩, h1, h2⟩ := yq r; exact ⟨⟨_, .str y t⟩, h2, Nat.zero_le _⟩
  | tup xs =>
   obtain ⟨a, vs, n, rfl, _, il, rs, _⟩ := jI r
   have e : (xs.mapM (xU U d)).map PyData.tuple = some p := e
   obtain ⟨ps, e1, rfl⟩ := Option.map_eq_some_iff.mp e
   obtain ⟨⟨as, r1⟩, r2, r3⟩ := zEp ih _ _ _ e1 rs
   exact ⟨⟨_, .tuple il rfl rfl r1⟩, r2, by rw [PyData.depth]; omega⟩
  | lst xs => exact lists rfl e
  | ref k =>
   have e : zCr (xU U d) U[k]? = some p := e
   cases ho : U[k]? with
   | none => rw [ho] at e; first | exact zB e | exact zF e | cases e
   | some o =>
    rw [ho] at e
    cases o with
    | list xs => exact lists (show xT U[k]? = some xs by rw [ho]; rfl) e
    | _ => first | exact zB e | exact zF e | cases e
  | undef => first | exact zB e | exact zF e | cases e
  | exc _ => first | exact zB e | exact zF e | cases e
  | parts => first | exact zB e | exact zF e | cases e
theorem zBy {a b : V} {va vb : Value} {r : Bool} (hu : A.units + 64 < cLine) (L : Lk S X f U s.heap) (e : eqV.eqD U a b = some r) (ra : VR S X f s.heap a va) (rb : VR S X f s.heap b vb) :
  wpAny (model S.prog S.w) A (compareOp .Eq va vb) (PE S X f s (.bool r)) E s /\ wpAny (model S.prog S.w) A (compareOp .NotEq va vb) (PE S X f s (.bool !r)) E s := by
 unfold eqV.eqD at e
 cases h1 : xU U wO a with
 | none => first | (rw [h1] at e; exact zB e) | simp [h1] at e
 | some p =>
  cases h2 : xU U wO b with
  | none => first | (rw [h1, h2] at e; exact zB e) | (rw [h1, Option.bind_some, h2] at e; exact zB e) | simp [h1, h2] at e
  | some q =>
   simp [h1, h2] at e
   subst e
   obtain ⟨⟨as, a1⟩, a2, a3⟩ := zBl L _ _ _ _ h1 ra
   obtain ⟨⟨bs, b1⟩, b2, b3⟩ := zBl L _ _ _ _ h2 rb
   have sa : SeqAt.shaped p = true := by unfold SeqAt.shaped; rw [a2, Bool.true_and]; exact decide_eq_true (Nat.le_trans a3 (by decide))
   have sb : SeqAt.shaped q = true := by unfold SeqAt.shaped; rw [b2, Bool.true_and]; exact decide_eq_true (Nat.le_trans b3 (by decide))
   exact ⟨SeqAt.compareEq_shaped a1 b1 sa sb hu .bool0, SeqAt.compareNe_shaped a1 b1 sa sb hu .bool0⟩
end
end Mine
end

section
namespace Mine
open PySem PyProof.Rows
section
variable {S : zO} {A : Around} {X : List Addr} {f : List Loc} {U : Sto} {s : Shared} {E : Value -> Shared -> Prop}
theorem zAt (l : List Bool) : (List.range l.length).all (fun i => (l[i]?).getD true) = l.all id := by
 rw [Bool.eq_iff_iff, List.all_eq_true, List.all_eq_true]
 constructor
 ·intro h x hx
  obtain ⟨i, hi, rfl⟩ := List.getElem_of_mem hx
  have := h i (List.mem_range.mpr hi)
  rw [List.getElem?_eq_getElem hi] at this
  exact this
 ·intro h i hi
  rw [List.getElem?_eq_getElem (List.mem_range.mp hi)]
  exact h _ (List.getElem_mem _)
theorem zEq {a x : V} {va : Value} (L : Lk S X f U s.heap) (e : ev1 .toTup U a = some x) (ra : VR S X f s.heap a va) :
  wpAny (model S.prog S.w) A (call (.type "tuple") [va]) (PE S X f s x) E s := by
 delta ev1 at e; dsimp only at e; simp only [Option.map_eq_some_iff] at e
 obtain ⟨xs, h1, rfl⟩ := e
 obtain ⟨p, vs, n, rfl, il, r, l⟩ := yE L h1 ra
 have z := zY r
 refine call_tuple_list (IsL.isList il) (fun h' k => ?_) (by rw [z]; exact Nat.le_trans l yM)
 have e1 : Ext s { s with heap := h'.push { cls := .type "tuple", data := .seq vs } } := .heap (t := s.toks) fun b o q => Heap.get?_push_of_some _ (k b o q)
 have hn : s.heap.get? h'.objs.size = none := by
  cases q : s.heap.get? h'.objs.size with
  | none => rfl
  | some o => have := yb h'; rw [k _ _ q] at this; cases this
 refine ⟨e1, ?_, fun _ q => by cases q⟩
 exact ⟨_, vs, 0, rfl, L.new hn, Heap.get?_push_size _ rfl, e1.vrs r, l⟩
theorem zEo {a x : V} {va : Value} (e : ev1 .toInt U a = some x) (ra : VR S X f s.heap a va) :
  wpAny (model S.prog S.w) A (call (.type "int") [va]) (PE S X f s x) E s := by
 cases a with
 | bool b => obtain rfl := wz ra; cases e; exact call_int_bool .int
 | int i => obtain ⟨t, rfl⟩ := zy ra; cases e; exact call_int_int (.int (tk := s.toks))
 | str y =>
  obtain ⟨⟨t, rfl⟩, _⟩ := yq ra
  have e : (if y.length <= 640 then (intText? y).map V.int else none) = some x := e
  split at e
  ·rename_i hl
   simp only [Option.map_eq_some_iff] at e
   obtain ⟨n, hn, rfl⟩ := e
   exact PySem.W.KIN.call_text hn hl .int
  ·first | exact zB e | exact zF e | cases e
 | _ => first | exact zB e | exact zF e | cases e
noncomputable def zKx : Kd -> String
 | .int => "int" | .bool => "bool" | .str => "str" | .list => "list" | .tuple => "tuple" | .exc _ => "ValueError"
theorem zj {x a : V} {t : Sem Value} (e : some a = some x) (h : wpAny (model S.prog S.w) A t (PE S X f s a) E s) : wpAny (model S.prog S.w) A t (PE S X f s x) E s := Option.some.inj e ▸ h
theorem zOP (c : Cls) : c.sub .ValueError = true := by cases c <;> rfl
theorem zDJ {a x : V} {va : Value} {k : Kd}
  (hk : ∀ c, k = .exc c -> c = .ValueError)
  (L : Lk S X f U s.heap) (e : ev1 (.isInst k) U a = some x) (ra : VR S X f s.heap a va) :
  wpAny (model S.prog S.w) A (call (.builtin "isinstance") [va, .type (zKx k)]) (PE S X f s x) E s := by
 cases a with
 | undef => first | exact zB e | exact zF e | cases e
 | parts => first | exact zB e | exact zF e | cases e
 | exc c =>
  cases k with
  | exc d =>
   obtain rfl := hk d rfl
   obtain ⟨p, o, rfl, -, e3, e4, e5⟩ := ra
   obtain ⟨Ca, bm, N, nm, qn, bs, hdct, sn, sub, ab, col, dd, k0, k1, k2, k3, k5, mN, hcl, hC, hN, hni, OT, hm, TC⟩ := e5
   obtain ⟨hp, g, d, tk, os⟩ := s
   refine zj e (zNr (L.base _ _ hC) (TC.keeps L.base) e3 (e4.trans hcl) ?_)
   rw [zOP]
   exact .bool0
  | _ => exact zB e
 | none =>
  obtain rfl := zDY ra
  cases k <;> first | exact zB e | skip
  ·exact zj e (IsiPair.NoneType_int .bool)
  ·exact zj e (IsiPair.NoneType_bool .bool)
  ·exact zj e (IsiPair.NoneType_str .bool)
  ·exact zj e (IsiPair.NoneType_list .bool)
  ·exact zj e (IsiPair.NoneType_tuple .bool)
 | bool b =>
  obtain rfl := wz ra
  cases k <;> first | exact zB e | skip
  ·exact zj e (IsiPair.bool_int .bool0)
  ·exact zj e (IsiPair.bool_bool .bool0)
  ·exact zj e (IsiPair.bool_str .bool)
  ·exact zj e (IsiPair.bool_list .bool)
  ·exact zj e (IsiPair.bool_tuple .bool)
 | int i =>
  obtain ⟨t, rfl⟩ := zy ra
  cases k <;> first | exact zB e | skip
  ·exact zj e (IsiPair.int_int .bool0)
  ·exact zj e (IsiPair.int_bool .bool)
  ·exact zj e (IsiPair.int_str .bool)
  ·exact zj e (IsiPair.int_list .bool)
  ·exact zj e (IsiPair.int_tuple .bool)
 | str y =>
  obtain ⟨⟨t, rfl⟩, _⟩ := yq ra
  cases k <;> first | exact zB e | skip
  ·exact zj e (IsiPair.str_int .bool)
  ·exact zj e (IsiPair.str_bool .bool)
  ·exact zj e (IsiPair.str_str .bool0)
  ·exact zj e (IsiPair.str_list .bool)
  ·exact zj e (IsiPair.str_tuple .bool)
 | tup xs =>
  obtain ⟨p, vs, n, rfl, _, il, _⟩ := jI ra
  cases k <;> first | exact zB e | skip
  ·exact zj e (IsiPair.tuple_int il rfl .bool)
  ·exact zj e (IsiPair.tuple_bool il rfl .bool)
  ·exact zj e (IsiPair.tuple_str il rfl .bool)
  ·exact zj e (IsiPair.tuple_list il rfl .bool)
  ·exact zj e (IsiPair.tuple_tuple il rfl .bool0)
 | lst xs =>
  obtain ⟨p, vs, n, rfl, il, _⟩ := yE L (x := .lst xs) rfl ra
  cases k <;> first | exact zB e | skip
  ·exact zj e (IsiPair.list_int il rfl .bool)
  ·exact zj e (IsiPair.list_bool il rfl .bool)
  ·exact zj e (IsiPair.list_str il rfl .bool)
  ·exact zj e (IsiPair.list_list il rfl .bool0)
  ·exact zj e (IsiPair.list_tuple il rfl .bool)
 | ref m =>
  cases ho : U[m]? with
  | none => have e : (zIz U[m]? k).map V.bool = some x := e; rw [ho] at e; cases e
  | some o =>
   cases o with
   | list ys =>
    obtain ⟨p, vs, n, rfl, il, _⟩ := yE L (x := .ref m) (xs := ys) (by show xT U[m]? = some ys; rw [ho]; rfl) ra
    have e : (zIz U[m]? k).map V.bool = some x := e
    rw [ho] at e
    cases k <;> first | exact zB e | skip
    ·exact zj e (IsiPair.list_int il rfl .bool)
    ·exact zj e (IsiPair.list_str il rfl .bool)
    ·exact zj e (IsiPair.list_list il rfl .bool0)
    ·exact zj e (IsiPair.list_tuple il rfl .bool)
   | dict es => have e : (zIz U[m]? k).map V.bool = some x := e; rw [ho] at e; cases e
   | inst es => have e : (zIz U[m]? k).map V.bool = some x := e; rw [ho] at e; cases e
end
end Mine
end

section
namespace Mine
open PySem PyProof.Rows
section
variable {S : zO} {A : Around} {X : List Addr} {f : List Loc} {U : Sto} {s : Shared} {E : Value -> Shared -> Prop}
theorem zG0 {a x : V} {va : Value} (hh : A.handled = none) (L : Lk S X f U s.heap) (e : ev1 .all U a = some x) (ra : VR S X f s.heap a va) :
  wpAny (model S.prog S.w) A (call (.builtin "all") [va]) (PE S X f s x) E s := by
 delta ev1 at e; dsimp only at e
 cases h1 : listOf? U a with
 | none => first | (rw [h1] at e; exact zB e) | simp [h1] at e
 | some xs =>
  cases h2 : bools? xs with
  | none => first | (rw [h1, h2] at e; exact zB e) | (rw [h1, Option.bind_some, h2] at e; exact zB e) | simp [h1, h2] at e
  | some l =>
   simp [h1, h2] at e
   subst e
   obtain ⟨p, vs, n, rfl, il, r, _⟩ := yE L h1 ra
   have hv := zDl h2 r
   have hlist := IsL.isList il
   have hlt : p < s.heap.objs.size := Heap.lt_size il
   refine call_all_walk (wpAny_pyIter_list hlist ?_)
   refine ⟨s.heap.objs.size, _, _, vs.size, _, _, fun i => (l[i]?).getD true, rfl, Walks.list (A := A.in1) hh s.heap.objs.size p (Nat.ne_of_lt hlt) vs,
    ⟨⟨_, Heap.get?_push_size _ rfl, rfl, rfl⟩, hlist.push _⟩, ?_, fun h' tk k => ?_⟩
   ·intro i v s₁ Q E' hP hQ
    rw [<- Array.getElem?_toList, hv, List.getElem?_map] at hP
    cases hl : l[i]? with
    | none => rw [hl] at hP; first | exact zB hP | exact zF hP | cases hP
    | some b => rw [hl] at hP; cases hP; exact wpAny_truthy_bool (by simpa [hl] using hQ)
   ·have hz : vs.size = l.length := by rw [<- Array.length_toList, hv, List.length_map]
    rw [hz, zAt]
    exact .boolH (old_kept k)
theorem zC4 (l : List Str) (x : Str) (ys : List (Str × Tok)) (h : ys.map (·.1) = l) : (ys.map fun p => Value.str p.1 p.2).any (fun y => match y with | .str z _ => z.cps.toList == x.cps.toList | _ => false) = l.contains x := by
 subst h
 induction ys with
 | nil => rfl
 | cons p ps ih =>
  simp only [List.map_cons, List.any_cons, List.contains_cons, ih]
  congr 1
  rw [Bool.eq_iff_iff]
  constructor
  ·intro h
   have : p.1.cps.toList = x.cps.toList := beq_iff_eq.mp h
   have : p.1 = x := by cases hp : p.1; cases hx : x; rw [hp, hx] at this; simp at this; rw [this]
   simp [this]
  ·intro h
   rw [beq_iff_eq.mp h]; simp
theorem zDG {y : Str} {u : Tok} {xs : List V} {l : List Str} {p : Addr} {vs : Array Value} {n : Nat} (il : IsL s.heap p vs n \/ IsT s.heap p vs n) (r : VRs S X f s.heap xs vs.toList) (h2 : strs? xs = some l) :
  wpAny (model S.prog S.w) A (compareOp .In (.str y u) (.ref p)) (PE S X f s (.bool (l.contains y))) E s /\ wpAny (model S.prog S.w) A (compareOp .NotIn (.str y u) (.ref p)) (PE S X f s (.bool !(l.contains y))) E s := by
 obtain ⟨ys, e1, e2, _⟩ := zGj h2 r
 have hany : vs.any (fun y' => match y' with | .str z _ => z.cps.toList == y.cps.toList | _ => false) = l.contains y := by
  rw [<- zC4 l y ys e2, <- e1]
  exact (Array.any_toList ..).symm
 have he : ∀ v, v ∈ vs -> MeetsSeq.EqGives v (.str y u) (match v with | .str z _ => z.cps.toList == y.cps.toList | _ => false) := by
  intro v hv
  have : v ∈ vs.toList := by simpa using hv
  rw [e1] at this
  obtain ⟨q, _, rfl⟩ := List.mem_map.mp this
  exact SeqRoads2.EqGives.str q.1 y q.2 u
 rcases il with il | il
 ·exact ⟨SeqRoads2.in_list _ he il (by rw [hany]; exact .bool0), SeqRoads2.notIn_list _ he il (by rw [hany]; exact .bool0)⟩
 ·exact ⟨SeqRoads2.in_tuple _ he il (by rw [hany]; exact .bool0), SeqRoads2.notIn_tuple _ he il (by rw [hany]; exact .bool0)⟩
theorem zDH {x y : Str} {c : Nat} {t u : Tok} (hc : zz x = [c]) :
  wpAny (model S.prog S.w) A (compareOp .In (.str x t) (.str y u)) (PE S X f s (.bool ((zz y).contains c))) E s /\ wpAny (model S.prog S.w) A (compareOp .NotIn (.str x t) (.str y u)) (PE S X f s (.bool !((zz y).contains c))) E s := by
 have hx : x = ⟨#[c]⟩ := by cases x with | mk a => simp [zz] at hc; rw [show a = #[c] from Array.toList_inj.mp hc]
 subst hx
 have e : (!(Builtin.Str.occurrences y ⟨#[c]⟩ 0 y.length 1).isEmpty) = (zz y).contains c := by
  rw [StrLaws.found_one]
  rw [Bool.eq_iff_iff]; simp [zz]
 exact ⟨PyProof.Rows.in_str (by rw [e]; exact .bool0), PyProof.Rows.notIn_str (by rw [e]; exact .bool0)⟩
noncomputable def wl (S : zO) (h : Heap) : Prop := S.hasParts = true -> ∃ d g, S.parts = .ref d /\ (d == sysModules) = false /\ h.MapOf (strKind S.prog S.w) d g /\ ∀ x, ∃ t, g x = ((partsTable.find? fun p => p.1 == x).map fun p => Value.int p.2 t)
theorem zDM (x : Str) : ((partsTable.find? fun p => p.1 == x).map fun p => p.2).isSome = partsTable.any fun p => p.1 == x := by
 rw [Option.isSome_map, Bool.eq_iff_iff, List.find?_isSome, List.any_eq_true]
theorem zBU {x : Str} {t : Tok} (hp : wl S s.heap) (hh : S.hasParts = true) :
  wpAny (model S.prog S.w) A (compareOp .In (.str x t) S.parts) (PE S X f s (.bool (partsTable.any fun p => p.1 == x))) E s /\ wpAny (model S.prog S.w) A (compareOp .NotIn (.str x t) S.parts) (PE S X f s (.bool !(partsTable.any fun p => p.1 == x))) E s := by
 obtain ⟨d, g, e, hd, hm, hg⟩ := hp hh
 rw [e]
 obtain ⟨tk, hgx⟩ := hg x
 have hs : (g x).isSome = partsTable.any fun p => p.1 == x := by rw [hgx, <- zDM x, Option.isSome_map, Option.isSome_map]
 have hk : (strKind S.prog S.w).is x (.str x t) = true := by show Value.isStrOf x (.str x t) = true; simp [Value.isStrOf]
 exact ⟨wpAny_in_of hk hd hm (by rw [hs]; exact .bool), wpAny_notIn_of hk hd hm (by rw [hs]; exact .bool)⟩
theorem zEI {a b : V} {va vb : Value} {r : Bool} (hp : wl S s.heap) (L : Lk S X f U s.heap) (e : inV U a b = some r) (ra : VR S X f s.heap a va) (rb : VR S X f s.heap b vb) :
  wpAny (model S.prog S.w) A (compareOp .In va vb) (PE S X f s (.bool r)) E s /\ wpAny (model S.prog S.w) A (compareOp .NotIn va vb) (PE S X f s (.bool !r)) E s := by
 cases a with
 | str x =>
  obtain ⟨⟨t, rfl⟩, _⟩ := yq ra
  have gen : ∀ {xs : List V}, yr U b = some xs -> ((strs? xs).map fun l => l.contains x) = some r ->
    wpAny (model S.prog S.w) A (compareOp .In (.str x t) vb) (PE S X f s (.bool r)) E s /\ wpAny (model S.prog S.w) A (compareOp .NotIn (.str x t) vb) (PE S X f s (.bool !r)) E s := by
   intro xs h1 h2
   obtain ⟨p, vs, n, rfl, il, rs, _⟩ := vJ L h1 rb
   cases h3 : strs? xs with
   | none => first | (rw [h3] at h2; exact zB h2) | simp [h3] at h2
   | some l => rw [h3, Option.map_some, Option.some.injEq] at h2; subst h2; exact zDG il rs h3
  cases b with
  | str y =>
   obtain ⟨⟨u, rfl⟩, _⟩ := yq rb
   delta inV at e; dsimp only at e
   split at e
   ·rename_i c hc; cases e; exact zDH hc
   ·first | exact zB e | exact zF e | cases e
  | parts => obtain ⟨hh, rfl⟩ := rb; cases e; exact zBU hp hh
  | tup xs => exact gen rfl e
  | lst xs => exact gen rfl e
  | ref k =>
   delta inV at e; dsimp only at e
   cases h1 : yr U (.ref k) with
   | none => first | (rw [h1] at e; exact zB e) | simp [h1] at e
   | some xs => simp only [h1, Option.bind_some] at e; exact gen h1 e
  | _ => first | exact zB e | exact zF e | cases e
 | _ => first | exact zB e | exact zF e | cases e
theorem zAu {y : Str} {i : Int} {t u : Tok} {k : Nat} {c : Nat} (hl : y.length <= LIM) (hok : PyData.strOk y = true) (h1 : zd y.length i = some k) (h2 : (zz y)[k]? = some c) :
  wpAny (model S.prog S.w) A (getItem (.str y t) (.int i u)) (PE S X f s (.str (mkS [c]))) E s := by
 obtain ⟨g1, g2, g3, g4⟩ := vM h1
 have hll := xS hl
 refine PyProof.Rows.getItem_str (c := c) ?_ ?_ ?_
 ·by_cases h0 : 0 <= i
  ·have := g3 h0; simp; omega
  ·have := g4 (by omega); simp; omega
 ·rw [g1]; simpa [zz] using h2
 ·have hc : c < 0x110000 := by
   have hm : c ∈ y.cps.toList := List.mem_of_getElem? h2
   have := Array.all_eq_true.mp hok
   obtain ⟨j, hj, rfl⟩ := List.getElem_of_mem hm
   have := this j (by simpa using hj)
   simpa using this
  have : PyData.strOk (mkS [c]) = true := by simp [PyData.strOk, mkS, hc]
  exact PE.str (s := s) (by simp [mkS, Str.length]; decide) this
theorem zDw {h : Heap} {i : Int} {x : V} : ∀ {es : List (Int × V)} {kvs : List (Int × Value)}, ((es.find? fun p => p.1 == i).map fun p => p.2) = some x -> kvs.map (·.1) = es.map (·.1) -> VRs S X f h (es.map (·.2)) (kvs.map (·.2)) -> ∃ v, valueAt kvs i = some v /\ VR S X f h x v
 | [], _, e, _, _ => zB e
 | q :: qs, [], _, hk, _ => by cases hk
 | q :: qs, r :: rs, e, hk, hv => by
  simp only [List.map_cons, List.cons.injEq] at hk
  rw [List.map_cons, List.map_cons] at hv
  rw [List.find?_cons] at e
  unfold valueAt
  rw [List.find?_cons, hk.1]
  by_cases hq : q.1 = i
  ·rw [hq, beq_self_eq_true] at e
   rw [hq, decide_eq_true rfl]
   cases e
   exact ⟨_, rfl, hv.1⟩
  ·rw [beq_eq_false_iff_ne.mpr hq] at e
   rw [decide_eq_false hq]
   exact zDw e hk.2 hv.2
inductive zBC (U : Sto) (x : V) : V -> V -> Prop
 | str (y : Str) (i : Int) (k c : Nat) (h4 : zd y.length i = some k) (h5 : (zz y)[k]? = some c) (ex : V.str (mkS [c]) = x) : zBC U x (.str y) (.int i)
 | seq (a : V) (xs : List V) (i : Int) (k : Nat) (h1 : yr U a = some xs) (h4 : zd xs.length i = some k) (h3 : xs[k]? = some x) : zBC U x a (.int i)
 | dict (n : Nat) (es : List (Int × V)) (i : Int) (ho : U[n]? = some (.dict es)) (h : ((es.find? fun p => p.1 == i).map fun p => p.2) = some x) : zBC U x (.ref n) (.int i)
 | parts (y : Str) (h : ((partsTable.find? fun p => p.1 == y).map fun p => V.int p.2) = some x) : zBC U x .parts (.str y)
theorem zJ1 {U : Sto} {a x : V} {xs : List V} {i : Int} (h1 : yr U a = some xs) (h : ((zd xs.length i).bind fun k => xs[k]?) = some x) : zBC U x a (.int i) := by
 obtain ⟨k, h4, h3⟩ := Option.bind_eq_some_iff.mp h
 exact .seq a xs i k h1 h4 h3
theorem zPa {U : Sto} {n : Nat} {x : V} {i : Int} (e : ev2 .index U (.ref n) (.int i) = some x) : zBC U x (.ref n) (.int i) := by
 delta ev2 at e; dsimp only at e
 cases ho : U[n]? with
 | none => rw [ho] at e; exact zB e
 | some ob =>
  rw [ho] at e
  cases ob with
  | list xs => exact zJ1 (xs := xs) (by delta yr; dsimp only; rw [ho]) e
  | dict es => exact .dict n es i ho e
  | inst _ => first | exact zB e | exact zF e | cases e
theorem zPZ {U : Sto} {a b x : V} (e : ev2 .index U a b = some x) : zBC U x a b := by
 cases b with
 | int i =>
  cases a with
  | str y =>
   obtain ⟨k, h4, e⟩ := Option.bind_eq_some_iff.mp (show ((zd y.length i).bind fun k => (zz y)[k]?.map fun c => V.str (mkS [c])) = some x from e)
   obtain ⟨c, h5, ex⟩ := Option.map_eq_some_iff.mp e
   exact .str y i k c h4 h5 ex
  | ref n => exact zPa e
  | tup xs => exact zJ1 rfl e
  | lst xs => exact zJ1 rfl e
  | _ => first | exact zB e | exact zF e | cases e
 | str y =>
  cases a with
  | parts => exact .parts y e
  | _ => first | exact zB e | exact zF e | cases e
 | _ => cases a <;> exact zB e
theorem zEJ {a b x : V} {va vb : Value} (hp : wl S s.heap) (L : Lk S X f U s.heap) (e : ev2 .index U a b = some x) (ra : VR S X f s.heap a va) (rb : VR S X f s.heap b vb) :
  wpAny (model S.prog S.w) A (getItem va vb) (fun v s' => Ext s s' /\ VR S X f s'.heap x v) E s := by
 have q := zPZ e
 clear e
 cases q with
 | str y i k c h4 h5 ex =>
  obtain ⟨⟨t, rfl⟩, l1, l2⟩ := yq ra
  obtain ⟨u, rfl⟩ := zy rb
  subst ex
  exact wpAny_mono (zAu l1 l2 h4 h5) (fun v s' q => ⟨q.1, q.2.1⟩) fun _ _ q => q
 | seq a xs i k h1 h4 h3 =>
  obtain ⟨u, rfl⟩ := zy rb
  obtain ⟨p, vs, n, rfl, il, rs, l⟩ := vJ L h1 ra
  exact wpAny_mono (zEG il rs l h4 h3) (fun v s' q => by obtain ⟨rfl, q⟩ := q; exact ⟨.refl _, q⟩) fun _ _ q => q
 | dict n es i ho h =>
  obtain ⟨u, rfl⟩ := zy rb
  obtain ⟨l, hl, rfl⟩ := ra
  have ob := L.obj n l _ hl ho
  obtain ⟨p, d⟩ := l
  cases d with
  | some d => exact ob.elim
  | none =>
   obtain ⟨kvs, hd, hk, hv, hlen⟩ := ob
   obtain ⟨v, h1, h2⟩ := zDw h hk hv
   exact wpAny_getItem_of (knd := intKind S.prog S.w) (k := i) (by show Value.isInt i (.int i u) = true; simp [Value.isInt]) hd.dictOf.mapOf h1 ⟨.toks s _, h2⟩
 | parts y h =>
  obtain ⟨hh, rfl⟩ := ra
  obtain ⟨⟨u, rfl⟩, _⟩ := yq rb
  obtain ⟨d, g, h1, hd, hm, hg⟩ := hp hh
  obtain ⟨tk, hgx⟩ := hg y
  obtain ⟨q, h2, rfl⟩ := Option.map_eq_some_iff.mp h
  rw [h2] at hgx
  rw [h1]
  exact wpAny_getItem_of (knd := strKind S.prog S.w) (k := y) (by show Value.isStrOf y (.str y u) = true; simp [Value.isStrOf]) hm hgx ⟨.toks s _, ⟨tk, rfl⟩⟩
end
end Mine
end

section
namespace Mine
open PySem PyProof.Rows Builtin Builtin.Str
section
variable {S : zO} {A : Around} {X : List Addr} {f : List Loc} {U : Sto} {s : Shared} {E : Value -> Shared -> Prop}
theorem zEk {h : Heap} : ∀ {xs : List V} {vs : List Value} {l : List Str}, VRs S X f h xs vs -> strs? xs = some l -> StrsAre vs l
 | [], [], l, _, e => by cases e; exact .nil
 | x :: xs, v :: vs, l, r, e => by
  unfold strs? at e
  rw [List.mapM_cons] at e
  cases x with
  | str y =>
   cases e2 : xs.mapM strOf? with
   | none => rw [e2] at e; cases e
   | some l' =>
    rw [e2] at e
    cases e
    obtain ⟨⟨t, rfl⟩, _⟩ := yq r.1
    exact .cons y t (zEk r.2 e2)
  | _ => first | exact zB e | exact zF e | cases e
 | [], _ :: _, _, r, _ => False.elim r
 | _ :: _, [], _, r, _ => False.elim r
theorem zEj : PyData.strOk Str.empty = true := by unfold PyData.strOk Str.empty; simp
theorem zBg {sep : Str} (hs : PyData.strOk sep = true) : ∀ {l : List Str}, (∀ x ∈ l, PyData.strOk x = true) -> PyData.strOk (Str.join sep l) = true
 | [], _ => zEj
 | [x], h => h x List.mem_cons_self
 | x :: y :: r, h => by
  show PyData.strOk (x ++ sep ++ Str.join sep (y :: r)) = true
  exact ww (ww (h x List.mem_cons_self) hs) (zBg hs fun z hz => h z (List.mem_cons_of_mem _ hz))
theorem zGk {h : Heap} : ∀ {xs : List V} {vs : List Value} {l : List Str}, VRs S X f h xs vs -> strs? xs = some l -> ∀ x ∈ l, PyData.strOk x = true
 | [], [], l, _, e => by cases e; intro x hx; cases hx
 | x :: xs, v :: vs, l, r, e => by
  unfold strs? at e
  rw [List.mapM_cons] at e
  cases x with
  | str y =>
   cases e2 : xs.mapM strOf? with
   | none => rw [e2] at e; cases e
   | some l' =>
    rw [e2] at e
    cases e
    obtain ⟨_, _, hk⟩ := yq r.1
    intro z hz
    rcases List.mem_cons.mp hz with rfl | hz
    ·exact hk
    ·exact zGk r.2 e2 z hz
  | _ => first | exact zB e | exact zF e | cases e
 | [], _ :: _, _, r, _ => False.elim r
 | _ :: _, [], _, r, _ => False.elim r
theorem zFP {a b x : V} {va vb : Value} (L : Lk S X f U s.heap) (e : ev2 .join U a b = some x) (ra : VR S X f s.heap a va) (rb : VR S X f s.heap b vb) :
  wpAny (model S.prog S.w) A (call (.builtin "str.join") [va, vb]) (PE S X f s x) E s := by
 have e : zJ2 U a b = some x := e
 unfold zJ2 at e
 simp only [Option.bind_eq_some_iff] at e
 obtain ⟨sep, h1, xs, h2, l, h3, e⟩ := e
 split at e
 ·rename_i hl
  cases e
  cases a with
  | str y =>
   cases h1
   obtain ⟨⟨t, rfl⟩, _, hk⟩ := yq ra
   obtain ⟨p, vs, n, rfl, il, rs, _⟩ := yE L h2 rb
   refine join_list (IsL.isList il) (zEk rs h3) (by omega) fun t' k => .str ?_ ?_
   ·show (glued sep l).length <= LIM
    rw [StrLaws.glued_eq_join]
    have := StrLaws.join_length_le sep l
    simp only [LIM]; omega
   ·show PyData.strOk (glued sep l) = true
    rw [StrLaws.glued_eq_join]
    exact zBg hk (zGk rs h3)
  | _ => first | exact zB h1 | exact zF h1 | cases h1
 ·first | exact zB e | exact zF e | cases e
end
end Mine
end

section
namespace Mine
open PySem PyProof.Rows
section
variable {M : Model} {A : Around} {E : Value -> Shared -> Prop} {s : Shared} {env : Env}
theorem wR {x : Str} {mg : Str -> Option Value} {v : Value} {Q : Value -> Shared -> Prop} (hk : env.scope.kind = .function) (hl : env.kindOf x = some .globalImplicit) (hg : s.heap.Ns env.globals mg) (hv : mg x = some v) (h : Q v s) :
  wpAny M A (loadName env x) Q E s := by
 unfold loadName
 simp only [Env.blockKind, hk, hl, ScopeKind.isAnnotationScope, Bool.false_and, Bool.false_eq_true, if_false]
 unfold loadGlobal
 refine wpAny_bind (wpAny_nsGet hg ?_)
 rw [hv]
 exact wpAny_pure h
theorem jS {x : Str} {mg mb : Str -> Option Value} {v : Value} {Q : Value -> Shared -> Prop} (hk : env.scope.kind = .function) (hl : env.kindOf x = some .globalImplicit) (hg : s.heap.Ns env.globals mg) (hn : mg x = none)
  (hb : s.heap.Ns env.builtins mb) (hv : mb x = some v) (h : Q v s) : wpAny M A (loadName env x) Q E s := by
 unfold loadName
 simp only [Env.blockKind, hk, hl, ScopeKind.isAnnotationScope, Bool.false_and, Bool.false_eq_true, if_false]
 unfold loadGlobal
 refine wpAny_bind (wpAny_nsGet hg ?_)
 rw [hn]
 refine wpAny_bind (wpAny_nsGet hb ?_)
 rw [hv]
 exact wpAny_pure h
noncomputable def zBA (s : Shared) (f : Value) : Prop := (∀ a, f ≠ .ref a) \/ ∃ a o fd, f = .ref a /\ s.heap.get? a = some o /\ o.data = .func fd
theorem zHR {f : Value} {Q : Keeper -> Shared -> Prop} (hc : zBA s f) (h : ∀ k, (k = .machine \/ k = .frame) -> Q k s) : wpAny M A (keeperOf f) Q E s := by
 unfold keeperOf
 rcases hc with hc | ⟨a, o, fd, rfl, ho, hd⟩
 ·cases f with
  | ref a => exact absurd rfl (hc a)
  | _ => exact wpAny_pure (h _ (.inl rfl))
 ·refine wpAny_bind (wpAny_load ho ?_)
  rw [hd]
  exact wpAny_pure (h _ (.inr rfl))
theorem zx {e : Expr} {r : List Expr} (h : isStar e = false) : starEach (e :: r) env = (false, eval e env) :: starEach r env := by
 cases e <;> first | rfl | exact zF h.symm
theorem zl {pos : Pos} (args : List Expr) (h : args.any isStar = false) : (backTo pos (starEach args env)).any (·.1) = false := by
 induction args with
 | nil => rfl
 | cons e r ih =>
  have h1 := Bool.or_eq_false_iff.mp ((List.any_cons).symm.trans h)
  rw [zx h1.1]
  exact ih h1.2
theorem vB {f : Value} {trees : List (Bool × Sem Value)} {Q : Args -> Shared -> Prop} (hn : trees.any (·.1) = false)
  (h : wpAny M A (spliced trees) (fun vs s' => Q ⟨vs, []⟩ s') E s) : wpAny M A (evalArgs f true trees []) Q E s := by
 cases trees with
 | nil => exact fun H p hH => (PyProof.Rows.evalArgs_none (show Q ⟨[], []⟩ s from h H p hH)) H p hH
 | cons t r =>
  obtain ⟨b, x⟩ := t
  have hb : b = false := by simp only [List.any_cons, Bool.or_eq_false_iff] at hn; exact hn.1
  subst hb
  exact Calls.evalArgs_plain h
theorem yX {pos : Pos} {f : Value} {first : List Value} {trees : List (Bool × Sem Value)} {Q : Value -> Shared -> Prop} (hn : trees.any (·.1) = false)
  (h : wpAny M A (spliced trees) (fun vs s₁ => zBA s₁ f /\ wpAny M A (call f (first ++ vs) []) Q E s₁) E s) : wpAny M A (callWith pos f first trees []) Q E s := by
 unfold callWith
 refine wpAny_bind (wpAny_holding (vB hn (wpAny_mono h (fun vs s₁ h₁ => ?_) fun _ _ q => q)))
 refine wpAny_bind (wpAny_standAt ?_)
 simp only [hn, Bool.false_or, List.any_nil]
 have fin : wpAny M A (call f (first ++ vs) []) (fun r s' => wpAny M A (do holding [r] point; pure r) Q E s') E s₁ := wpAny_mono h₁.2 (fun r s' q => wpAny_bind (wpAny_holding (wpAny_point (wpAny_pure q)))) fun _ _ q => q
 refine wpAny_bind (zHR h₁.1 fun k hk => ?_)
 rcases hk with rfl | rfl
 ·exact wpAny_bind fin
 ·show wpAny M A (if trees.length + 2 * 0 > 30 then (call f (first ++ vs) [] >>= fun r => do holding [r] point; pure r) else (callMarked plainCall f (first ++ vs) [] >>= fun r => do holding [r] point; pure r)) Q E s₁
  split
  ·exact wpAny_bind fin
  ·exact wpAny_bind (Calls.wpAny_keep fin)
theorem wE {o : Expr} {name : Str} (h : noSuper o = true) : attributeBase o name env (eval o env) = eval o env := by
 cases o with
 | Call fn args kws pos =>
  cases fn with
  | Name id p =>
   cases args with
   | nil =>
    cases kws with
    | nil => first | exact zB h | exact zF h | cases h
    | cons _ _ => rfl
   | cons _ _ => rfl
  | _ => rfl
 | _ => rfl
end
end Mine
end

section
namespace Mine
open PySem PyProof.Rows
section
variable {S : zO} {X Y : List Addr} {f g : List Loc} {U : Sto} {s s' : Shared}
theorem zKD {f : List Loc} (h : (addrs f).Nodup) {i j : Nat} {l l' : Loc} (hi : f[i]? = some l) (hj : f[j]? = some l') (hne : i ≠ j) : ∀ a ∈ l.addrs, a ∉ l'.addrs := by
 induction f generalizing i j with
 | nil => simp at hi
 | cons x f ih =>
  have h1 : (x.addrs ++ addrs f).Nodup := by simpa [addrs] using h
  obtain ⟨_, h2, h3⟩ := List.nodup_append.mp h1
  cases i with
  | zero =>
   cases j with
   | zero => exact absurd rfl hne
   | succ j =>
    simp at hi hj
    subst hi
    intro a ha hb
    exact h3 a ha a (zt hj hb) rfl
  | succ i =>
   cases j with
   | zero =>
    simp at hi hj
    subst hj
    intro a ha hb
    exact h3 a hb a (zt hi ha) rfl
   | succ j =>
    simp at hi hj
    exact ih h2 hi hj (by omega)
theorem Lk.upd {n : Nat} {l : Loc} {o' : O} {h' : Heap} (L : Lk S X f U s.heap) (hn : f[n]? = some l) (hs : ∀ b o, b ∉ l.addrs -> s.heap.get? b = some o -> h'.get? b = some o) (ho : OR S X f h' l o') : Lk S X f (U.set n o') h' := by
 have nb : ∀ b o, b ∉ addrs f -> s.heap.get? b = some o -> h'.get? b = some o := fun b o hb => hs b o fun q => hb (zt hn q)
 have kv : ∀ x v, VR S X f s.heap x v -> VR S X f h' x v := VR.keep (fun _ _ e => e) fun a o q h1 h2 => ⟨⟨h1, h2⟩, o, nb a o h1 q, .refl o⟩
 have kvs : ∀ x v, VRs S X f s.heap x v -> VRs S X f h' x v := VRs.keep (fun _ _ e => e) fun a o q h1 h2 => ⟨⟨h1, h2⟩, o, nb a o h1 q, .refl o⟩
 refine ⟨fun b o e => ?_, by rw [List.length_set]; exact L.len, L.nodup, L.fresh, fun a ha => ?_, fun i l' o hi hoo => ?_⟩
 ·exact nb b o (fun q => by rw [L.fresh b q] at e; cases e) (L.base b o e)
 ·obtain ⟨h1, h2, o, h3⟩ := L.hid a ha
  exact ⟨h1, h2, o, nb a o h2 h3⟩
 ·by_cases hin : i = n
  ·subst hin
   rw [hn] at hi; cases hi
   have hlt : i < U.length := L.len ▸ (List.getElem?_eq_some_iff.mp hn).1
   rw [List.getElem?_set_self hlt] at hoo
   cases hoo
   exact ho
  ·rw [List.getElem?_set_ne (fun q => hin q.symm)] at hoo
   refine (L.obj i l' o hi hoo).keep kv kvs fun a ha => ?_
   obtain ⟨ob, e⟩ := (L.obj i l' o hi hoo).live a ha
   rw [e, hs a ob (fun q => zKD L.nodup hi hn hin a ha q) e]
theorem Kp.upd {n : Nat} {l : Loc} {h' : Heap} {t : Nat} (hn : f[n]? = some l) (hs : ∀ b o, b ∉ l.addrs -> s.heap.get? b = some o -> h'.get? b = some o) (hl : ∀ a ∈ l.addrs, ∃ o, h'.get? a = some o) : Kp f Y s { s with heap := h', toks := t } := by
 have nb : ∀ b o, b ∉ addrs f -> s.heap.get? b = some o -> h'.get? b = some o := fun b o hb => hs b o fun q => hb (zt hn q)
 refine ⟨rfl, fun a o e => ?_, fun a o e h1 _ => ⟨o, nb a o h1 e, .refl o⟩, fun a o es k e d h1 => ⟨o, es, k, nb a o h1 e, d⟩⟩
 by_cases ha : a ∈ l.addrs
 ·exact hl a ha
 ·exact ⟨o, hs a o ha e⟩
theorem Lk.track {l : Loc} {o : O} {h : Heap} (L : Lk S (l.addrs ++ X) f U h) (hnd : l.addrs.Nodup) (hX : ∀ a ∈ l.addrs, a ∉ X) (ho : OR S X (f ++ [l]) h l o) : Lk S X (f ++ [l]) (U ++ [o]) h := by
 have hdis : ∀ a ∈ l.addrs, a ∉ addrs f := fun a ha => (L.hid a (List.mem_append_left _ ha)).2.1
 have hl : addrs [l] = l.addrs := by simp [addrs]
 have kf : ∀ (i : Nat) (l' : Loc), f[i]? = some l' -> (f ++ [l])[i]? = some l' := fun i l' e => List.getElem?_append_left (List.getElem?_eq_some_iff.mp e).1 ▸ e
 have kh : ∀ a ob, h.get? a = some ob -> a ∉ addrs f -> a ∉ l.addrs ++ X -> (a ∉ addrs (f ++ [l]) /\ a ∉ X) /\ ∃ o', h.get? a = some o' /\ SameObj ob o' := fun a ob q h1 h2 =>
  ⟨⟨fun h3 => (mem_addrs_append.mp h3).elim h1 fun h4 => h2 (List.mem_append_left _ (hl ▸ h4)), fun h3 => h2 (List.mem_append_right _ h3)⟩, ob, q, .refl ob⟩
 refine ⟨L.base, by simp [L.len], ?_, fun a ha => ?_, fun a ha => ?_, fun i l' o' hi ho' => ?_⟩
 ·rw [jK, hl]
  exact List.nodup_append.mpr ⟨L.nodup, hnd, fun a ha b hb e => hdis b hb (e ▸ ha)⟩
 ·rcases mem_addrs_append.mp ha with ha | ha
  ·exact L.fresh a ha
  ·exact (L.hid a (List.mem_append_left _ (hl ▸ ha))).1
 ·obtain ⟨h1, h2, h3⟩ := L.hid a (List.mem_append_right _ ha)
  exact ⟨h1, fun q => (mem_addrs_append.mp q).elim h2 fun q => hX a (hl ▸ q) ha, h3⟩
 ·by_cases hlt : i < f.length
  ·rw [List.getElem?_append_left hlt] at hi
   rw [List.getElem?_append_left (L.len ▸ hlt)] at ho'
   exact (L.obj i l' o' hi ho').keep (VR.keep kf kh) (VRs.keep kf kh) fun _ _ => rfl
  ·have hi' : i = f.length := by
    have := (List.getElem?_eq_some_iff.mp hi).1
    simp at this; omega
   subst hi'
   rw [List.getElem?_append_right (Nat.le_refl _)] at hi
   rw [L.len, List.getElem?_append_right (Nat.le_refl _)] at ho'
   simp at hi ho'
   subst hi ho'
   exact ho
theorem Lk.hideNew {a : Addr} (L : Lk S X f U s.heap) (e : Ext s s') (hn : s.heap.get? a = none) {o : Obj} (hl : s'.heap.get? a = some o) : Lk S (a :: X) f U s'.heap := by
 have hb : S.hb.get? a = none := by
  cases q : S.hb.get? a with
  | none => rfl
  | some o => rw [L.base a o q] at hn; first | exact zB hn | exact zF hn | cases hn
 have kv : ∀ x v, VR S X f s.heap x v -> VR S (a :: X) f s'.heap x v := VR.keep (fun _ _ e => e) fun b ob q h1 h2 =>
  ⟨⟨h1, fun h => (List.mem_cons.mp h).elim (fun h => by subst h; rw [hn] at q; cases q) h2⟩, ob, e.keep b ob q, .refl ob⟩
 have kvs : ∀ x v, VRs S X f s.heap x v -> VRs S (a :: X) f s'.heap x v := VRs.keep (fun _ _ e => e) fun b ob q h1 h2 =>
  ⟨⟨h1, fun h => (List.mem_cons.mp h).elim (fun h => by subst h; rw [hn] at q; cases q) h2⟩, ob, e.keep b ob q, .refl ob⟩
 have L' := e.lk L
 refine ⟨L'.base, L'.len, L'.nodup, L'.fresh, fun b hb' => ?_, fun i l ob hi ho => (L.obj i l ob hi ho).keep kv kvs fun b hb' => ?_⟩
 ·rcases List.mem_cons.mp hb' with rfl | hb'
  ·exact ⟨hb, (L.new hn).1, o, hl⟩
  ·exact L'.hid b hb'
 ·obtain ⟨ob', q⟩ := L.live (zt hi hb')
  rw [q]; exact e.keep b ob' q
theorem VRs.hideNew {a : Addr} (e : Ext s s') (hn : s.heap.get? a = none) {xs : List V} {vs : List Value} (r : VRs S X f s.heap xs vs) : VRs S (a :: X) f s'.heap xs vs :=
 VRs.keep (fun _ _ e => e) (fun b ob q h1 h2 => ⟨⟨h1, fun h => (List.mem_cons.mp h).elim (fun h => by subst h; rw [hn] at q; cases q) h2⟩, ob, e.keep b ob q, .refl ob⟩) xs vs r
theorem Lk.less {X' : List Addr} {h : Heap} (L : Lk S X f U h) (hX : ∀ a ∈ X', a ∈ X) : Lk S X' f U h :=
 ⟨L.base, L.len, L.nodup, L.fresh, fun a ha => L.hid a (hX a ha), fun i l o hi ho => (L.obj i l o hi ho).keep (fun _ _ => VR.less hX) (fun _ _ => VRs.less hX) fun _ _ => rfl⟩
theorem Lk.enter {X N : List Addr} {f : List Loc} {U : Sto} {s s₁ : Shared} (L : Lk S X f U s.heap) (hk : ∀ b o, s.heap.get? b = some o -> s₁.heap.get? b = some o)
  (hN : ∀ a ∈ N, s.heap.get? a = none /\ ∃ o, s₁.heap.get? a = some o) : Lk S (N ++ X) f U s₁.heap := by
 have kv : ∀ x v, VR S X f s.heap x v -> VR S (N ++ X) f s₁.heap x v := fun x v e =>
  VR.keep (fun _ _ e => e) (fun a o ho h1 h2 => ⟨⟨h1, fun h => (List.mem_append.mp h).elim (fun h => by rw [(hN a h).1] at ho; cases ho) h2⟩, o, hk a o ho, .refl o⟩) x v e
 have kvs : ∀ x v, VRs S X f s.heap x v -> VRs S (N ++ X) f s₁.heap x v := fun x v e =>
  VRs.keep (fun _ _ e => e) (fun a o ho h1 h2 => ⟨⟨h1, fun h => (List.mem_append.mp h).elim (fun h => by rw [(hN a h).1] at ho; cases ho) h2⟩, o, hk a o ho, .refl o⟩) x v e
 refine ⟨fun b o h => hk b o (L.base b o h), L.len, L.nodup, L.fresh, fun a ha => ?_, fun i l o hi ho => (L.obj i l o hi ho).keep kv kvs fun a ha => ?_⟩
 ·rcases List.mem_append.mp ha with h | h
  ·refine ⟨?_, fun hf => ?_, (hN a h).2⟩
   ·cases e : S.hb.get? a with
    | none => rfl
    | some o => have := L.base a o e; rw [(hN a h).1] at this; cases this
   ·obtain ⟨o, e⟩ := L.live hf; rw [(hN a h).1] at e; cases e
  ·obtain ⟨h1, h2, o, h3⟩ := L.hid a h
   exact ⟨h1, h2, o, hk a o h3⟩
 ·obtain ⟨o', e⟩ := (L.obj i l o hi ho).live a ha
  rw [e, hk a o' e]
theorem ExcR.less {X' : List Addr} {h h₀ : Heap} {ea : Addr} {k : Cls} (e : ExcR S X f U h h₀ ea k) (hX : ∀ a ∈ X', a ∈ X) : ExcR S X' f U h h₀ ea k := by
 obtain ⟨e1, ec, hs, oe, vs, L, e4, e5, e6, e8⟩ := e
 exact ⟨e1, ec, hs, oe, vs, L.less fun a ha => (List.mem_append.mp ha).elim (fun h => List.mem_append_left _ h) fun h => List.mem_append_right _ (hX a h), e4, e5, e6, e8⟩
inductive zP0 (S : zO) (X : List Addr) (f : List Loc) (U : Sto) (s s' : Shared) (xs : List V) (v : Value) : Prop where
 | mk (a : Addr) (vs : Array Value) (n : Nat) (e : v = .ref a) (hn : s.heap.get? a = none) (hX : a ∉ X) (L : Lk S (a :: X) f U s'.heap) (il : IsL s'.heap a vs n) (rs : VRs S (a :: X) f s'.heap xs vs.toList) (hl : xs.length <= LIM)
inductive QN (S : zO) (X Y : List Addr) (f : List Loc) (s : Shared) (r : R V) (v : Value) (s' : Shared) : Prop where
 | mk (x : V) (U' : Sto) (g : List Loc) (e : r = .ok x U') (hg : Fresh g s) (k : Kp f Y s s') (L : Lk S X (f ++ g) U' s'.heap) (p : VR S X (f ++ g) s'.heap x v) (hl : ∀ xs, x = .lst xs -> zP0 S X (f ++ g) U' s s' xs v)
theorem QN.qs {r : R V} {v : Value} (q : QN S X Y f s r v s') : QS S X Y f (PV S X) s r v s' := by
 obtain ⟨x, U', g, e, hg, k, L, p, _⟩ := q
 exact ⟨x, U', g, e, hg, k, L, p⟩
theorem QN.trk {r : R V} {v : Value} (hne : (r.bind fun v U => zDy U v) ≠ .stuck) (q : QN S X Y f s r v s') : QS S X Y f (PV S X) s (r.bind fun v U => zDy U v) v s' := by
 obtain ⟨x, U', g, rfl, hg, k, L, p, hl⟩ := q
 cases x with
 | lst xs =>
  obtain ⟨a, vs, n, rfl, hn, hX, L', il, r, hlen⟩ := hl xs rfl
  refine ⟨.ref U'.length, U' ++ [.list xs], g ++ [(a, none)], rfl, ?_, k, ?_, ?_⟩
  ·intro b hb
   rcases mem_addrs_append.mp hb with hb | hb
   ·exact hg b hb
   ·have : b = a := by simpa [addrs, Loc.addrs] using hb
    rw [this]; exact hn
  ·rw [<- List.append_assoc]
   refine Lk.track (l := (a, none)) (X := X) L' (by simp [Loc.addrs]) (fun b hb => by rw [show b = a by simpa [Loc.addrs] using hb]; exact hX) ⟨vs, n, il, ?_, hlen⟩
   refine VRs.keep (fun i l' e => List.getElem?_append_left (List.getElem?_eq_some_iff.mp e).1 ▸ e) (fun b ob q h1 h2 => ⟨⟨fun h3 => ?_, fun h3 => h2 (List.mem_cons_of_mem _ h3)⟩, ob, q, .refl ob⟩) xs vs.toList r
   rcases mem_addrs_append.mp h3 with h3 | h3
   ·exact h1 h3
   ·have : b = a := by simpa [addrs, Loc.addrs] using h3
    exact h2 (this ▸ List.mem_cons_self)
  ·show VR S X (f ++ (g ++ [(a, none)])) s'.heap (.ref U'.length) (.ref a)
   refine ⟨(a, none), ?_, rfl⟩
   rw [<- List.append_assoc, <- L.len, List.getElem?_append_right (Nat.le_refl _)]
   simp
 | _ => exact absurd rfl hne
theorem PE.qn {s₁ : Shared} {x : V} {v : Value} (hg : Fresh g s) (k : Kp f Y s s₁) (L : Lk S X (f ++ g) U s₁.heap) (p : PE S X (f ++ g) s₁ x v s') : QN S X Y f s (.ok x U) v s' := by
 obtain ⟨e, r, hl⟩ := p
 refine ⟨x, U, g, rfl, hg, k.trans hg (e.kp _ _), e.lk L, r, fun xs hx => ?_⟩
 obtain ⟨a, vs, n, e1, e2, e3, e4, e5⟩ := hl xs hx
 refine ⟨a, vs, n, e1, zw k.live e2, (L.new e2).2, L.hideNew e e2 e3, e3, ?_, e5⟩
 exact VRs.hideNew e e2 e4
end
end Mine
end

section
namespace Mine
open PySem PyProof.Rows
noncomputable def yG (k : Option NameKind) : Prop := k = some .cell \/ k = some .free
noncomputable def NameIs (env : Env) (h : Heap) (x : Str) (w : Value) : Prop :=
 (env.kindOf x = some .local /\ ∃ m, h.Ns env.locals m /\ m x = some w) \/ (yG (env.kindOf x) /\ ∃ c, env.cells.lookup x = some c /\ h.IsCell c (some w))
structure FR (S : zO) (X : List Addr) (f : List Loc) (h : Heap) (env : Env) (H : List Str) (sc : Scope) (J : List V) : Prop where
 kind : env.scope.kind = .function
 glob : env.globals = mainGlobals
 blt : env.builtins = builtinsNs
 names : ∀ x, env.kindOf x = sc.names.lookup x \/ (sc.names.lookup x = some .free /\ env.kindOf x = some .cell)
 loc : env.locals ∈ X /\ ∃ m, h.Ns env.locals m
 cells : ∀ x, yG (env.kindOf x) -> ∃ c o, env.cells.lookup x = some c /\ c ∈ X /\ h.IsCell c o
 vals : ∀ x i v, zAn sc x = true -> zr x H = some i -> J[i]? = some v -> v ≠ .undef -> ∃ w, NameIs env h x w /\ VR S X f h v w
 len : J.length = H.length
noncomputable def FrL (S : zO) (f : List Loc) (h : Heap) (l : List Env) : Prop :=
 ∀ e ∈ l, e.scope.kind ≠ .module /\ ∃ L o es n, e.frame = some L /\ S.hb.get? L = none /\ L ∉ addrs f /\ h.get? L = some o /\ o.data = .dict es n
structure Cx (S : zO) (A : Around) (q : Bool) (d : Nat) (f : List Loc) (h : Heap) (fr : Option Addr) : Prop where
 depth : A.depth + 2 * d + 3 <= 900
 units : A.units + 5 * d + 202 <= 9900
 hand : q = false -> A.handled = none
 frs : ∃ e0 l, A.frames = some (e0 :: l) /\ e0.frame = fr /\ FrL S f h (e0 :: l)
structure CxC (S : zO) (A : Around) (q : Bool) (d : Nat) (f : List Loc) (h : Heap) : Prop where
 depth : A.depth + 2 * d + 2 <= 900
 units : A.units + 5 * d + 200 <= 9900
 hand : q = false -> A.handled = none
 frs : ∃ l, A.frames = some l /\ FrL S f h l
theorem Cx.call {S : zO} {A : Around} {q : Bool} {d : Nat} {f : List Loc} {h : Heap} {fr : Option Addr} (c : Cx S A q d f h fr) : CxC S A q d f h :=
 ⟨by have := c.depth; omega, by have := c.units; omega, c.hand, let ⟨e0, l, h1, _, h3⟩ := c.frs; ⟨e0 :: l, h1, h3⟩⟩
section
variable {S : zO} {A : Around} {X Y : List Addr} {f g : List Loc} {s s' : Shared} {env : Env} {H : List Str} {sc : Scope} {J : List V} {q : Bool} {d : Nat} {fr : Option Addr}
theorem zEO {a : Addr} {m : Str -> Option Value} (k : Kp f Y s s') (hf : a ∉ addrs f) (hY : a ∉ Y) (h : s.heap.Ns a m) : s'.heap.Ns a m := by
 obtain ⟨o, es, ep, ho, hd, r⟩ := h
 obtain ⟨o', ho', e⟩ := k.kept a o ho hf hY
 exact ⟨o', es, ep, ho', e.data.trans hd, r⟩
theorem zDL {a : Addr} {m : Option Value} (k : Kp f Y s s') (hf : a ∉ addrs f) (hY : a ∉ Y) (h : s.heap.IsCell a m) : s'.heap.IsCell a m := by
 obtain ⟨o, ho, hd⟩ := h
 obtain ⟨o', ho', e⟩ := k.kept a o ho hf hY
 exact ⟨o', ho', e.data.trans hd⟩
theorem NameIs.keep {x : Str} {w : Value} (k : Kp f Y s s') (hl : env.locals ∉ addrs f /\ env.locals ∉ Y) (hc : ∀ x c, env.cells.lookup x = some c -> yG (env.kindOf x) -> c ∉ addrs f /\ c ∉ Y) (h : NameIs env s.heap x w) : NameIs env s'.heap x w := by
 rcases h with ⟨h1, m, h2, h3⟩ | ⟨h1, c, h2, h3⟩
 ·exact .inl ⟨h1, m, zEO k hl.1 hl.2 h2, h3⟩
 ·exact .inr ⟨h1, c, h2, zDL k (hc x c h2 h1).1 (hc x c h2 h1).2 h3⟩
theorem FR.keep {U : Sto} (F : FR S X f s.heap env H sc J) (L : Lk S X f U s.heap) (k : Kp f [] s s') (hg : Fresh g s) : FR S X (f ++ g) s'.heap env H sc J := by
 have hl : env.locals ∉ addrs f := (L.hid _ F.loc.1).2.1
 have hc : ∀ x c, env.cells.lookup x = some c -> yG (env.kindOf x) -> c ∉ addrs f := fun x c e hk => by
  obtain ⟨c', o, e', hX, _⟩ := F.cells x hk
  rw [e] at e'; cases e'
  exact (L.hid c hX).2.1
 refine ⟨F.kind, F.glob, F.blt, F.names, ⟨F.loc.1, let ⟨m, h⟩ := F.loc.2; ⟨m, zEO k hl (by simp) h⟩⟩, fun x hx => ?_, fun x i v h1 h2 h3 h4 => ?_, F.len⟩
 ·obtain ⟨c, o, e, hX, h⟩ := F.cells x hx
  exact ⟨c, o, e, hX, zDL k (hc x c e hx) (by simp) h⟩
 ·obtain ⟨w, h5, h6⟩ := F.vals x i v h1 h2 h3 h4
  exact ⟨w, h5.keep k ⟨hl, by simp⟩ fun x c e hk => ⟨hc x c e hk, by simp⟩, h6.keepK k hg fun a ha => nomatch ha⟩
theorem FrL.keep {l : List Env} (F : FrL S f s.heap l) (k : Kp f Y s s') (hg : Fresh g s) : FrL S (f ++ g) s'.heap l := fun e he => by
 obtain ⟨h1, L, o, es, n, h2, h3, h4, h5, h6⟩ := F e he
 obtain ⟨o', es', n', h7, h8⟩ := k.dicts L o es n h5 h6 h4
 exact ⟨h1, L, o', es', n', h2, h3, fun h => (mem_addrs_append.mp h).elim h4 (yH hg h5), h7, h8⟩
theorem Cx.keep (c : Cx S A q d f s.heap fr) (k : Kp f Y s s') (hg : Fresh g s) : Cx S A q d (f ++ g) s'.heap fr :=
 ⟨c.depth, c.units, c.hand, let ⟨e0, l, h1, h2, h3⟩ := c.frs; ⟨e0, l, h1, h2, h3.keep k hg⟩⟩
end
inductive zCx (S : zO) (C : Ctx) : Prop where
 | mk (N : Addr) (mN : Str -> Option Value) (nm q : Str) (bs : List Value) (sn : List Str) (sub : List Value) (col : Option Bool) (dd : Option Addr) (k0 k1 k2 k3 k5 : Option Value)
   (hC : S.hb.get? S.book = some (excClassObj nm q S.book N bs [.type "object"] true sn sub false col dd k0 k1 k2 k3 k5 "object.__new__")) (hN : S.hb.Ns N mN)
   (hq : mN "__getattribute__" = none /\ mN "__getattr__" = none /\ mN "__setattr__" = none /\ mN (zQ 0) = none /\ mN (zQ 1) = none) (hini : mN "__init__" = some (.ref (S.fn 0))) (h0 : ∃ o, S.hb.get? (S.fn 0) = some o /\ o.cls = .type "function")
   (hms : ∀ m k, C.meths.lookup m = some k -> mN m = some (.ref (S.fn k)) /\ ∃ o, S.hb.get? (S.fn k) = some o /\ o.cls = .type "function")
inductive GF (S : zO) (C : Ctx) : Prop where
 | mk (mg mb : Str -> Option Value) (g1 : S.hb.Ns mainGlobals mg) (g2 : S.hb.Ns builtinsNs mb)
   (g3 : ∀ x v, C.consts.lookup x = some v -> ∃ w, mg x = some w /\ VR S [] [] S.hb v w)
   (g4 : ∀ x k, C.fns.lookup x = some k -> mg x = some (.ref (S.fn k)))
   (g5 : ∀ x : Str, (x ∈ b1Names.map (·.1) \/ x ∈ b2Names.map (·.1) \/ x ∈ kindNames.map (·.1) \/ x = ("isinstance" : Str) \/ x = ("range" : Str)) -> C.fns.lookup x = none -> mg x = none /\ mb x = bootBuiltins x)
   (g6 : C.book = true -> mg "Book" = some (.ref S.book))
   (g7 : ∀ x c, C.excs.lookup x = some c -> (mg x = some (S.cl c)) \/ (mg x = none /\ mb x = some (S.cl c)))
structure zW (S : zO) (C : Ctx) (T : Nat -> Option Fn) : Prop where
 g : GF S C
 nolimit : S.hb.NoLimit
 book : (C.book = false /\ C.meths = [] /\ C.attrs = []) \/ (C.attrs = attrNames /\ zCx S C)
 exc : ∀ x c, C.excs.lookup x = some c -> c ∈ S.kn /\ (x ≠ ("ValueError" : Str) -> zBB S c)
 parts : wl S S.hb
 pnn : S.parts ≠ .none
 fnObj : ∀ k fn, T k = some fn -> ∃ o fd, S.hb.get? (S.fn k) = some o /\ o.data = .func fd
section
variable (S : zO) (C : Ctx) (F : Calls) (q : Bool) (d : Nat)
noncomputable def FS : Prop := ∀ (k : Nat) (vs : List V) (U : Sto) (f : List Loc) (X : List Addr) (A : Around) (s : Shared) (vals : List Value), CxC S A q d f s.heap -> Lk S X f U s.heap -> VRs S X f s.heap vs vals ->
 F k vs U ≠ .stuck -> (∃ o fd, S.hb.get? (S.fn k) = some o /\ o.data = .func fd) /\
  codeAny (model S.prog S.w) A (.call (.ref (S.fn k)) ⟨vals, []⟩) (fun r s' => match r with | .ok (.ret v) => QS S X [] f (PV S X) s (F k vs U) v s' | .ok _ => False | .error e => ES S X [] f false s (F k vs U) e s') s
structure St (H : List Str) (sc : Scope) (env : Env) (J : List V) (f : List Loc) (X : List Addr) (U : Sto) (s : Shared) (A : Around) : Prop where
 cx : Cx S A q d f s.heap env.frame
 fr : FR S X f s.heap env H sc J
 lk : Lk S X f U s.heap
noncomputable def EOk (H : List Str) (sc : Scope) (e : Expr) (c : CE) : Prop := ∀ (env : Env) (J : List V) (f : List Loc) (X : List Addr) (U : Sto) (s : Shared) (A : Around), St S q d H sc env J f X U s A ->
 Sim S A X [] f (PV S X) (eval e env) (evE F q c J U) s
noncomputable def NOk (H : List Str) (sc : Scope) (e : Expr) (c : CE) : Prop := ∀ (env : Env) (J : List V) (f : List Loc) (X : List Addr) (U : Sto) (s : Shared) (A : Around), St S q d H sc env J f X U s A ->
 evE F q c J U ≠ .stuck -> wpAny (model S.prog S.w) A (eval e env) (QN S X [] f s (evE F q c J U)) (ES S X [] f false s (evE F q c J U)) s
noncomputable def LOk (H : List Str) (sc : Scope) (es : List Expr) (cs : List CE) : Prop := es.any isStar = false /\ ∀ (env : Env) (pos : Pos) (J : List V) (f : List Loc) (X : List Addr) (U : Sto) (s : Shared) (A : Around), St S q d H sc env J f X U s A ->
 Sim S A X [] f (fun vs xs f s => VRs S X f s.heap xs vs) (spliced (backTo pos (starEach es env))) (evL F q cs J U) s
noncomputable def TOk (H : List Str) (sc : Scope) (e : Expr) (c : CE) : Prop := ∀ (env : Env) (J : List V) (f : List Loc) (X : List Addr) (U : Sto) (s : Shared) (A : Around), St S q d H sc env J f X U s A ->
 Sim S A X [] f (fun b t _ _ => b = t) (isTrue e env (eval e env)) ((evE F q c J U).bind fun v U => R.lift U (truthy U v)) s
end
theorem FR.isGlob {S : zO} {X : List Addr} {f : List Loc} {h : Heap} {env : Env} {H : List Str} {sc : Scope} {J : List V} (fr : FR S X f h env H sc J) {x : Str} (hg : isGlob sc x = true) : env.kindOf x = some .globalImplicit := by
 have h : sc.names.lookup x = some .globalImplicit := by simpa [Mine.isGlob] using hg
 rcases fr.names x with e | ⟨e, _⟩
 ·exact e.trans h
 ·rw [h] at e; first | exact zB e | exact zF e | cases e
section
variable {S : zO} {C : Ctx} {F : Calls} {q : Bool} {d : Nat} {H : List Str} {sc : Scope}
theorem St.keep {env : Env} {J : List V} {f g : List Loc} {X : List Addr} {U U' : Sto} {s s' : Shared} {A : Around} (st : St S q d H sc env J f X U s A) (hg : Fresh g s) (k : Kp f [] s s') (L : Lk S X (f ++ g) U' s'.heap) : St S q d H sc env J (f ++ g) X U' s' A :=
 ⟨st.cx.keep k hg, st.fr.keep st.lk k hg, L⟩
theorem NOk.eok {e : Expr} {c : CE} (h : NOk S F q d H sc e c) : EOk S F q d H sc e c := fun env J f X U s A st hne => wpAny_mono (h env J f X U s A st hne) (fun _ _ x => x.qs) fun _ _ x => x
theorem NOk.trk {e : Expr} {c : CE} (h : NOk S F q d H sc e c) : EOk S F q d H sc e (.trk c) := fun env J f X U s A st hne => by
 have hr : evE F q c J U ≠ .stuck := fun e => hne (by rw [kq, e]; rfl)
 rw [kq] at hne ⊢
 refine wpAny_mono (h env J f X U s A st hr) (fun _ _ x => x.trk hne) fun e s' x => ?_
 obtain ⟨k, U', g, ea, e1, e2, hgE, kE, LE, xE⟩ := x
 exact ⟨k, U', g, ea, e1, by rw [e2]; rfl, hgE, kE, LE, xE⟩
theorem kJ {e : Expr} {c : CE} {p : Pos} (h : NOk S F q d H sc e c) : EOk S F q d H sc e (vE C p c) := by
 unfold vE; split
 ·exact h.trk
 ·exact h.eok
noncomputable def zBt {γ δ : Type} (Y : List Addr) (K : List Loc -> Shared -> R δ -> γ -> Shared -> Prop) : Prop := ∀ f g s s₁ r c s', Fresh g s -> Kp f Y s s₁ -> K (f ++ g) s₁ r c s' -> K f s r c s'
theorem QS.lifts {α β : Type} {X Y : List Addr} {P : α -> β -> List Loc -> Shared -> Prop} : zBt Y (fun f s r a s' => QS S X Y f P s r a s') := fun f g s s₁ r c s' hg k q => by
 obtain ⟨b', U'', g', e, hg', k', L, p⟩ := q
 rw [List.append_assoc] at L p
 exact ⟨b', U'', g ++ g', e, hg.trans k.live hg', k.trans hg k', L, p⟩
theorem ES.lifts {β : Type} {X Y : List Addr} {tr : Bool} : zBt (δ := β) Y (fun f s r a s' => ES S X Y f tr s r a s') := fun f g s s₁ r c s' hg k q => by
 obtain ⟨c, U'', g', ea, e1, e2, hg', k', L, x⟩ := q
 rw [List.append_assoc] at L x
 exact ⟨c, U'', g ++ g', ea, e1, e2, hg.trans k.live hg', k.trans hg k', L, x.back fun a h => zw k.live h⟩
theorem QN.lifts {X Y : List Addr} : zBt Y (fun f s r a s' => QN S X Y f s r a s') := fun f g s s₁ r c s' hg k q => by
 obtain ⟨x, U', g', e, hg', k', L, p, hl⟩ := q
 rw [List.append_assoc] at L p
 refine ⟨x, U', g ++ g', e, hg.trans k.live hg', k.trans hg k', L, p, fun xs hx => ?_⟩
 obtain ⟨a, vs, n, e1, e2, e3, e4, e5, e6, e7⟩ := hl xs hx
 rw [List.append_assoc] at e4 e6
 exact ⟨a, vs, n, e1, zw k.live e2, e3, e4, e5, e6, e7⟩
theorem Sim.go {α β γ δ : Type} {A : Around} {X Y : List Addr} {f : List Loc} {P : α -> β -> List Loc -> Shared -> Prop} {K : List Loc -> Shared -> R δ -> γ -> Shared -> Prop} (hK : zBt Y K)
  {t : Sem α} {r : R β} {rk : β -> Sto -> R δ} {s : Shared} {W : α -> Shared -> Prop} {Q' : γ -> Shared -> Prop} {E' : Value -> Shared -> Prop} (h : Sim S A X Y f P t r s) (hne : r.bind rk ≠ .stuck)
  (hQ : ∀ c s'', K f s (r.bind rk) c s'' -> Q' c s'') (hE : ∀ e s'', ES S X Y f false s (r.bind rk) e s'' -> E' e s'')
  (hk : ∀ a b U' g s', rk b U' ≠ .stuck -> Fresh g s -> Kp f Y s s' -> Lk S X (f ++ g) U' s'.heap -> P a b (f ++ g) s' -> (∀ c s'', K (f ++ g) s' (rk b U') c s'' -> Q' c s'') ->
   (∀ e s'', ES S X Y (f ++ g) false s' (rk b U') e s'' -> E' e s'') -> W a s') : wpAny (model S.prog S.w) A t W E' s := by
 have hr : r ≠ .stuck := fun e => hne (by rw [e]; rfl)
 refine wpAny_mono (h hr) (fun a s' q => ?_) fun e s' q => hE e s' ?_
 ·obtain ⟨b, U', g, rfl, hg, k, L, p⟩ := q
  exact hk a b U' g s' hne hg k L p (fun c s'' q => hQ c s'' (hK f g s s' _ c s'' hg k q)) fun e s'' q => hE e s'' (ES.lifts f g s s' _ e s'' hg k q)
 ·obtain ⟨c, U', g, ea, e1, rfl, hg, k, L, x⟩ := q
  exact ⟨c, U', g, ea, e1, rfl, hg, k, L, x⟩
theorem R.bind_assoc {α β γ : Type} (r : R α) (f : α -> Sto -> R β) (g : β -> Sto -> R γ) : (r.bind f).bind g = r.bind fun a U => (f a U).bind g := by cases r <;> rfl
theorem PE.here {X Y : List Addr} {f : List Loc} {U : Sto} {s s' : Shared} {x : V} {v : Value} (L : Lk S X f U s.heap) (p : PE S X f s x v s') : QN S X Y f s (.ok x U) v s' := by
 have := PE.qn (f := f) (g := []) (Y := Y) (.nil s) (.refl f Y s) (by rwa [List.append_nil]) (by rw [List.append_nil]; exact p)
 exact this
theorem Sim.goN {α β : Type} {A : Around} {X Y : List Addr} {f : List Loc} {P : α -> β -> List Loc -> Shared -> Prop}
  {t : Sem α} {r : R β} {rk : β -> Sto -> R V} {s : Shared} {W : α -> Shared -> Prop} {Q' : Value -> Shared -> Prop} {E' : Value -> Shared -> Prop} (h : Sim S A X Y f P t r s) (hne : r.bind rk ≠ .stuck)
  (hQ : ∀ c s'', QN S X Y f s (r.bind rk) c s'' -> Q' c s'') (hE : ∀ e s'', ES S X Y f false s (r.bind rk) e s'' -> E' e s'')
  (hk : ∀ a b U' g s', rk b U' ≠ .stuck -> Fresh g s -> Kp f Y s s' -> Lk S X (f ++ g) U' s'.heap -> P a b (f ++ g) s' -> (∀ c s'', QN S X Y (f ++ g) s' (rk b U') c s'' -> Q' c s'') ->
   (∀ e s'', ES S X Y (f ++ g) false s' (rk b U') e s'' -> E' e s'') -> W a s') : wpAny (model S.prog S.w) A t W E' s :=
 Sim.go (K := fun f s r a s' => QN S X Y f s r a s') QN.lifts h hne hQ hE hk
theorem Sim.goQ {α β γ δ : Type} {A : Around} {X Y : List Addr} {f : List Loc} {P : α -> β -> List Loc -> Shared -> Prop} {P' : γ -> δ -> List Loc -> Shared -> Prop}
  {t : Sem α} {r : R β} {rk : β -> Sto -> R δ} {s : Shared} {W : α -> Shared -> Prop} {Q' : γ -> Shared -> Prop} {E' : Value -> Shared -> Prop} (h : Sim S A X Y f P t r s) (hne : r.bind rk ≠ .stuck)
  (hQ : ∀ c s'', QS S X Y f P' s (r.bind rk) c s'' -> Q' c s'') (hE : ∀ e s'', ES S X Y f false s (r.bind rk) e s'' -> E' e s'')
  (hk : ∀ a b U' g s', rk b U' ≠ .stuck -> Fresh g s -> Kp f Y s s' -> Lk S X (f ++ g) U' s'.heap -> P a b (f ++ g) s' -> (∀ c s'', QS S X Y (f ++ g) P' s' (rk b U') c s'' -> Q' c s'') ->
   (∀ e s'', ES S X Y (f ++ g) false s' (rk b U') e s'' -> E' e s'') -> W a s') : wpAny (model S.prog S.w) A t W E' s :=
 Sim.go (K := fun f s r a s' => QS S X Y f P' s r a s') QS.lifts h hne hQ hE hk
end
end Mine
end

section
namespace Mine
open PySem PyProof.Rows
section
variable {S : zO} {C : Ctx} {T : Nat -> Option Fn} {F Fq : Calls} {q : Bool} {d : Nat} {H : List Str} {sc : Scope}
variable {X X' Y Z : List Addr} {f g : List Loc} {U : Sto} {s s' : Shared} {A : Around} {E : Value -> Shared -> Prop} {env : Env} {J : List V}
theorem zLa {n : Nat} {ax : Addr} {es : List (Int × V)} (L : Lk S X f U s.heap) (hf : f[n]? = some (ax, none)) (ho : U[n]? = some (.dict es)) :
  ∃ kvs, Even (intKind S.prog S.w) s.heap ax kvs /\ kvs.map (·.1) = es.map (·.1) /\ VRs S X f s.heap (es.map (·.2)) (kvs.map (·.2)) /\ es.length <= LIM /\ (ax == sysModules) = false := L.obj n _ _ hf ho
theorem zEt {n : Nat} {ax : Addr} {es' : List (Int × V)} {kvs' : List (Int × Value)} {h' : Heap} {t : Nat} (L : Lk S X f U s.heap) (hf : f[n]? = some (ax, none)) (hs : Heap.SameBut ax s.heap h') (hd : Even (intKind S.prog S.w) h' ax kvs')
  (e1 : kvs'.map (·.1) = es'.map (·.1)) (rs : VRs S X f s.heap (es'.map (·.2)) (kvs'.map (·.2))) (hl : es'.length <= LIM) (hy : (ax == sysModules) = false) :
  Lk S X f (U.set n (.dict es')) h' /\ ∀ Y, Kp f Y s { s with heap := h', toks := t } := by
 have hs' : ∀ b o, b ∉ Loc.addrs (ax, none) -> s.heap.get? b = some o -> h'.get? b = some o := fun b o hb e => (hs.2 b fun q => hb (by rw [q]; exact List.mem_singleton.mpr rfl)).trans e
 have hax : ax ∈ addrs f := zt hf (List.mem_singleton.mpr rfl)
 refine ⟨L.upd hf hs' ⟨kvs', hd, e1, ?_, hl, hy⟩, fun Y => Kp.upd hf hs' fun a ha => ?_⟩
 ·exact VRs.keep (fun _ _ e => e) (fun b ob q h1 h2 => ⟨⟨h1, h2⟩, ob, hs' b ob (fun z => h1 (by rw [List.mem_singleton.mp z]; exact hax)) q, .refl ob⟩) _ _ rs
 ·rw [List.mem_singleton.mp ha]; exact hd.live
theorem zCp {k : Int} {v : V} {vv : Value} {h : Heap} (rv : VR S X f h v vv) : ∀ {es : List (Int × V)} {kvs : List (Int × Value)}, kvs.map (·.1) = es.map (·.1) -> VRs S X f h (es.map (·.2)) (kvs.map (·.2)) ->
  ((kvs.any fun kv => decide (kv.1 = k)) = es.any fun p => p.1 == k) /\ ((kvs.map fun kv => if kv.1 = k then (kv.1, vv) else kv).map (·.1) = (es.map fun p => if p.1 == k then (k, v) else p).map (·.1)) /\
   VRs S X f h ((es.map fun p => if p.1 == k then (k, v) else p).map (·.2)) ((kvs.map fun kv => if kv.1 = k then (kv.1, vv) else kv).map (·.2))
 | [], [], _, _ => ⟨rfl, rfl, by rw [List.map_nil, List.map_nil, List.map_nil, List.map_nil]; exact True.intro⟩
 | [], _ :: _, e, _ => by cases e
 | _ :: _, [], e, _ => by cases e
 | (i, x) :: es, (j, w) :: kvs, e, r => by
  have e0 : j :: kvs.map (·.1) = i :: es.map (·.1) := e
  obtain ⟨rfl, e1⟩ := List.cons.inj e0
  have r0 : VRs S X f h (x :: es.map (·.2)) (w :: kvs.map (·.2)) := r
  obtain ⟨h1, h2, h3⟩ := zCp (k := k) rv e1 r0.2
  by_cases hk : j = k
  ·have c1 : (if (j, w).1 = k then ((j, w).1, vv) else (j, w)) = (j, vv) := if_pos hk
   have c2 : (if ((j, x).1 == k) = true then (k, v) else (j, x)) = (k, v) := if_pos (by simp [hk])
   refine ⟨by simp [hk], ?_, ?_⟩
   ·show (if (j, w).1 = k then ((j, w).1, vv) else (j, w)).1 :: _ = (if ((j, x).1 == k) = true then (k, v) else (j, x)).1 :: _
    rw [c1, c2, h2, hk]
   ·show VRs S X f h ((if ((j, x).1 == k) = true then (k, v) else (j, x)).2 :: _) ((if (j, w).1 = k then ((j, w).1, vv) else (j, w)).2 :: _)
    rw [c1, c2]
    exact ⟨rv, h3⟩
  ·have c1 : (if (j, w).1 = k then ((j, w).1, vv) else (j, w)) = (j, w) := if_neg hk
   have c2 : (if ((j, x).1 == k) = true then (k, v) else (j, x)) = (j, x) := if_neg (by simp [hk])
   refine ⟨by simp [hk, h1], ?_, ?_⟩
   ·show (if (j, w).1 = k then ((j, w).1, vv) else (j, w)).1 :: _ = (if ((j, x).1 == k) = true then (k, v) else (j, x)).1 :: _
    rw [c1, c2, h2]
   ·show VRs S X f h ((if ((j, x).1 == k) = true then (k, v) else (j, x)).2 :: _) ((if (j, w).1 = k then ((j, w).1, vv) else (j, w)).2 :: _)
    rw [c1, c2]
    exact ⟨r0.1, h3⟩
theorem zEe {n : Nat} {ki : Int} {vo vi vv : Value} {v' : V} {es : List (Int × V)} {Q : Unit -> Shared -> Prop} (L : Lk S X f U s.heap) (ro : VR S X f s.heap (.ref n) vo) (ri : VR S X f s.heap (.int ki) vi) (hU : U[n]? = some (.dict es)) (hl : es.length < LIM) (rv : VR S X f s.heap v' vv)
  (h : ∀ h' tk, Lk S X f (U.set n (.dict (xy es ki v'))) h' -> (∀ Y, Kp f Y s { s with heap := h', toks := tk }) -> Q () { s with heap := h', toks := tk }) : wpAny (model S.prog S.w) A (setItem vo vi vv) Q E s := by
 obtain ⟨⟨ax, dd⟩, hf, rfl⟩ := ro
 have hob := L.obj n _ _ hf hU
 cases dd with
 | some _ => exact hob.elim
 | none =>
 obtain ⟨kvs, hd, e1, rs, _, hy⟩ := hob
 obtain ⟨t, rfl⟩ := zy ri
 have hlen : kvs.length = es.length := by have := congrArg List.length e1; simpa using this
 have hsz : kvs.length <= sizeLine := by rw [hlen]; exact Nat.le_trans (Nat.le_of_lt hl) yM
 obtain ⟨p1, p2, p3⟩ := zCp (k := ki) rv e1 rs
 refine zDR (knd := intKind S.prog S.w) (k := ki) (by show Value.isInt ki (.int ki t) = true; simp [Value.isInt]) hd (fun h' hd' hs => ?_) hsz
 have key : (stored kvs ki vv).map (·.1) = (xy es ki v').map (·.1) /\ VRs S X f s.heap ((xy es ki v').map (·.2)) ((stored kvs ki vv).map (·.2)) /\ (xy es ki v').length <= LIM := by
  unfold stored xy
  rw [p1]
  split
  ·exact ⟨p2, p3, by rw [List.length_map]; exact Nat.le_of_lt hl⟩
  ·refine ⟨by rw [List.map_append, List.map_append, e1]; rfl, ?_, by rw [List.length_append]; exact hl⟩
   rw [List.map_append, List.map_append]
   exact xW rs ⟨rv, trivial⟩
 obtain ⟨L3, k3⟩ := zEt (t := s.toks + 1) L hf hs hd' key.1 key.2.1 key.2.2 hy
 exact h h' _ L3 k3
end
end Mine
end

section
namespace Mine
open PySem PyProof.Rows
noncomputable def xw (h : Heap) : List Addr -> Heap
 | [] => h
 | a :: l => (xw h l).hide a
theorem jD {h : Heap} {a : Addr} : ∀ {l : List Addr}, a ∈ l -> (xw h l).get? a = none
 | b :: l, m => by
  unfold xw
  by_cases e : a = b
  ·rw [e]; exact Heap.hide_self _ _
  ·rw [Heap.hide_ne _ e]; exact jD ((List.mem_cons.mp m).resolve_left e)
theorem wP {h : Heap} {a : Addr} : ∀ {l : List Addr}, a ∉ l -> (xw h l).get? a = h.get? a
 | [], _ => rfl
 | b :: l, m => by
  unfold xw
  have hne : a ≠ b := fun e => m (by rw [e]; exact List.mem_cons_self)
  rw [Heap.hide_ne _ hne]
  exact wP fun q => m (List.mem_cons_of_mem _ q)
theorem zBs (h : Heap) (l : List Addr) : (xw h l).StaysIn h := fun b o e => by
 by_cases m : b ∈ l
 ·rw [jD m] at e; first | exact zB e | exact zF e | cases e
 ·rwa [wP m] at e
section
variable {M : Model} {A : Around} {E : Value -> Shared -> Prop} {s : Shared} {env : Env} {outer : List Env} {base : Heap} {L e : Addr} {Q : Unit -> Shared -> Prop}
inductive zAw (base : Heap) (e : Addr) (cls : Value) (h h' : Heap) : Prop where
 | mk (stays : base.StaysIn h') (oe : Obj) (vs : Array Value) (T : Addr) (oT : Obj) (ts : Array Value) (p1 : h'.get? e = some oe) (p2 : oe.cls = cls) (p3 : oe.data = .fields vs) (p4 : vs[1]? = some (.ref T)) (p5 : base.get? T = none) (p6 : T ≠ e)
   (p7 : h'.get? T = some oT) (p8 : oT.data = .fields ts) (p9 : 3 < ts.size) (same : ∀ b o, h.get? b = some o -> (∀ vs, o.data ≠ .fields vs) -> ∃ sl, h'.get? b = some { o with slots := sl })
theorem zCA {head : Value} {hadNext : Bool} {oe : Obj} {vs : Array Value} (hfr : A.frames = some (env :: outer)) (hl : s.heap.FunFrames base (env :: outer)) (hf : env.frame = some L)
  (he : s.heap.get? e = some oe) (hkb : base.StaysIn s.heap) (hen : base.get? e = none) (hd : oe.data = .fields vs) (hsz : 1 < vs.size)
  (h : ∀ h', zAw base e oe.cls s.heap h' -> Q () { s with heap := h' }) :
  wpAny M A (do let a <- frameOf env; let pl <- entryPlaceOf L hadNext; let b <- EntryCells.newEntry head a .none (rawInt L) .none pl; setField (.ref e) 1 b) Q E s := by
 have out : e ∉ (env :: outer).filterMap (·.frame) := fun hm => by
  obtain ⟨_, o, ho, hnf⟩ := hl.mem hm
  rw [he] at ho; cases ho; exact hnf vs hd
 refine wpAny_bind (wpAny_frameOf_fun hfr hl hf fun h₁ so => ?_)
 refine wpAny_bind (wpAny_entryPlaceOf fun pl hpl => ?_)
 unfold EntryCells.newEntry newFields
 refine wpAny_bind (wpAny_newObj_type ?_ (hpl.sizeOk5 _ _ _ _ _))
 have he1 : h₁.get? e = some oe := (so.2.1 e out).trans he
 have kb1 : base.StaysIn h₁ := fun b o hbo => (so.2.1 b fun hm => by rw [(hl.mem hm).1] at hbo; cases hbo).trans (hkb b o hbo)
 have hTe : h₁.objs.size ≠ e := Nat.ne_of_gt (Heap.lt_size he1)
 refine wpAny_setField (Heap.get?_push_of_some _ he1) hd hsz (h _ ?_)
 have keep : ∀ (ob : Obj) b o, b ≠ e -> h₁.get? b = some o -> ((h₁.push ob).update e (Obj.mapFields (·.setIfInBounds 1 (Value.ref h₁.objs.size)))).get? b = some o := fun ob b o hb q =>
  (Heap.get?_update_other _ _ (Ne.symm hb)).trans (Heap.get?_push_of_some _ q)
 have hd3 := Obj.data_mapFields hd (·.setIfInBounds 1 (Value.ref h₁.objs.size))
 refine ⟨fun b o hbo => keep _ b o (fun q => by rw [q, hen] at hbo; cases hbo) (kb1 b o hbo), _, _, h₁.objs.size, _, _, Heap.get?_update_self _ (Heap.get?_push_of_some _ he1) (Obj.isFreed_of_fields hd3), Obj.cls_mapFields _ _, hd3, by simp [hsz], kb1.fresh, hTe,
  (Heap.get?_update_other _ _ (Ne.symm hTe)).trans (Heap.get?_push_size h₁ rfl), rfl, ?_, fun b o hb hnf => ?_⟩
 ·simp only [List.size_toArray, List.length_append, List.length_cons, List.length_nil]
  exact Nat.lt_of_lt_of_le (by decide) (Nat.le_add_right 5 _)
 ·obtain ⟨sl, q⟩ := so.2.2 b o hb
  exact ⟨sl, keep _ b _ (fun z => by rw [z, he] at hb; cases hb; exact hnf vs hd) q⟩
theorem zFW {oe : Obj} {vs : Array Value} (hfr : A.frames = some (env :: outer)) (hl : s.heap.FunFrames base (env :: outer)) (hf : env.frame = some L)
  (he : s.heap.get? e = some oe) (hkb : base.StaysIn s.heap) (hen : base.get? e = none) (hd : oe.data = .fields vs) (h1 : vs[1]? = some .none)
  (h : ∀ h', zAw base e oe.cls s.heap h' -> Q () { s with heap := h' }) :
  wpAny M A (noteFrame (.ref e) env) Q E s := by
 unfold noteFrame
 simp only [hf]
 refine wpAny_bind (wpAny_field he hd h1 ?_)
 rw [if_neg (by decide)]
 exact zCA hfr hl hf he hkb hen hd (Array.getElem?_eq_some_iff.mp h1).1 h
theorem zHd {oe oT : Obj} {vs ts : Array Value} {T : Addr} {z : Value} (hfr : A.frames = some (env :: outer)) (hl : s.heap.FunFrames base (env :: outer)) (hf : env.frame = some L)
  (he : s.heap.get? e = some oe) (hkb : base.StaysIn s.heap) (hen : base.get? e = none) (hd : oe.data = .fields vs) (h1 : vs[1]? = some (.ref T))
  (hnT : base.get? T = none) (hTe : T ≠ e) (hT : s.heap.get? T = some oT) (hdT : oT.data = .fields ts) (h3 : ts[3]? = some z)
  (h0 : Q () s) (h : ∀ h', zAw base e oe.cls s.heap h' -> Q () { s with heap := h' }) :
  wpAny M A (noteFrame (.ref e) env) Q E s := by
 unfold noteFrame
 simp only [hf]
 refine wpAny_bind (wpAny_field he hd h1 ?_)
 rw [if_pos (show (Value.ref T != Value.none) = true from by simp)]
 refine wpAny_bind (wpAny_field hT hdT h3 ?_)
 by_cases hz : (z == rawInt L) = true
 ·rw [if_pos hz]; exact wpAny_pure h0
 rw [if_neg hz]
 refine wpAny_bind (wpAny_setField hT hdT (Array.getElem?_eq_some_iff.mp h3).1 ?_)
 have other : ∀ b, b ≠ T -> (s.heap.update T (Obj.mapFields (·.setIfInBounds 3 Value.none))).get? b = s.heap.get? b := fun b hb => Heap.get?_update_other _ _ (Ne.symm hb)
 have noRecord : ∀ b o, s.heap.get? b = some o -> (∀ vs, o.data ≠ .fields vs) -> b ≠ T := fun b o hb hnf q => by
  rw [q, hT] at hb; cases hb; exact hnf ts hdT
 exact zCA hfr (hl.of_keeps fun b o hb hnf => ⟨o, (other b (noRecord b o hb hnf)).trans hb, rfl⟩) hf ((other e (Ne.symm hTe)).trans he)
  (fun b o hbo => (other b fun q => by rw [q, hnT] at hbo; cases hbo).trans (hkb b o hbo)) hen hd (Array.getElem?_eq_some_iff.mp h1).1
  fun h' ⟨x1, oe, vs, T, oT, ts, p1, p2, p3, p4, p5, p6, p7, p8, p9, x4⟩ => h h' ⟨x1, oe, vs, T, oT, ts, p1, p2, p3, p4, p5, p6, p7, p8, p9, fun b o hb hnf => x4 b o ((other b (noRecord b o hb hnf)).trans hb) hnf⟩
end
section
variable {S : zO} {X Y : List Addr} {f f0 : List Loc} {U : Sto} {h h' h₀ : Heap} {ea : Addr} {k : Cls} {s s' s0 : Shared} {l : List Env}
noncomputable def zu (l : List Env) : List Addr := l.filterMap (·.frame)
theorem FrL.mem (F : FrL S f h l) {a : Addr} (ha : a ∈ zu l) : S.hb.get? a = none /\ a ∉ addrs f /\ ∃ o es n, h.get? a = some o /\ o.data = .dict es n := by
 obtain ⟨e, he, hf⟩ := List.mem_filterMap.mp ha
 obtain ⟨_, L, o, es, n, h1, h2, h3, h4, h5⟩ := F e he
 rw [h1] at hf; cases hf
 exact ⟨h2, h3, o, es, n, h4, h5⟩
theorem FrL.fun {base : Heap} (F : FrL S f h l) (hb : ∀ a ∈ zu l, base.get? a = none) : h.FunFrames base l := by
 induction l with
 | nil => trivial
 | cons e l ih =>
  obtain ⟨h0, L, o, es, n, h1, h2, h3, h4, h5⟩ := F e List.mem_cons_self
  exact ⟨h0, ⟨L, o, h1, hb L (List.mem_filterMap.mpr ⟨e, List.mem_cons_self, h1⟩), h4, fun vs q => by rw [h5] at q; cases q⟩,
   ih (fun e he => F e (List.mem_cons_of_mem _ he)) fun a ha => hb a (by
    obtain ⟨e', he, hf⟩ := List.mem_filterMap.mp ha
    exact List.mem_filterMap.mpr ⟨e', List.mem_cons_of_mem _ he, hf⟩)⟩
structure Noted (S : zO) (f : List Loc) (h h' : Heap) (hs : List Addr) : Prop where
 same : ∀ b o, b ∉ hs -> h.get? b = some o -> ∃ o', h'.get? b = some o' /\ SameObj o o'
 base : ∀ b o, S.hb.get? b = some o -> h'.get? b = some o
 trk : ∀ b ∈ addrs f, h'.get? b = h.get? b
theorem Noted.lk {hs hs' : List Addr} (N : Noted S f h h' hs) (L : Lk S (hs ++ X) f U h) (hX : ∀ a ∈ X, a ∉ hs) (hn : ∀ a ∈ hs', (a ∈ hs \/ h.get? a = none) /\ ∃ o, h'.get? a = some o) : Lk S (hs' ++ X) f U h' := by
 have nf : ∀ a, a ∈ addrs f -> ∃ o, h.get? a = some o := fun a ha => L.live ha
 have ho : ∀ a o, h.get? a = some o -> a ∉ addrs f -> a ∉ hs ++ X -> (a ∉ addrs f /\ a ∉ hs' ++ X) /\ ∃ o', h'.get? a = some o' /\ SameObj o o' := fun a o e h1 h2 => by
  refine ⟨⟨h1, fun q => ?_⟩, N.same a o (fun q => h2 (List.mem_append_left _ q)) e⟩
  rcases List.mem_append.mp q with q | q
  ·rcases (hn a q).1 with z | z
   ·exact h2 (List.mem_append_left _ z)
   ·rw [z] at e; first | exact zB e | exact zF e | cases e
  ·exact h2 (List.mem_append_right _ q)
 refine ⟨N.base, L.len, L.nodup, L.fresh, fun a ha => ?_, fun i l o hi hU => (L.obj i l o hi hU).keep (fun x v e => VR.keep (fun _ _ e => e) ho x v e) (fun x v e => VRs.keep (fun _ _ e => e) ho x v e) fun a ha => N.trk a (zt hi ha)⟩
 rcases List.mem_append.mp ha with q | q
 ·obtain ⟨z, o, e⟩ := hn a q
  rcases z with z | z
  ·obtain ⟨h1, h2, _⟩ := L.hid a (List.mem_append_left _ z)
   exact ⟨h1, h2, o, e⟩
  ·refine ⟨?_, fun hf => ?_, o, e⟩
   ·cases hb : S.hb.get? a with
    | none => rfl
    | some o => have := L.base a o hb; rw [z] at this; cases this
   ·obtain ⟨o, q⟩ := nf a hf; rw [z] at q; cases q
 ·obtain ⟨h1, h2, o, e⟩ := L.hid a (List.mem_append_right _ q)
  exact ⟨h1, h2, let ⟨o', q', _⟩ := N.same a o (hX a q) e; ⟨o', q'⟩⟩
theorem Noted.kp {hs : List Addr} (N : Noted S f s.heap h' hs) (K : Kp f0 Y s0 s) (hn : ∀ a ∈ hs, s0.heap.get? a = none) : Kp f0 Y s0 { s with heap := h' } := by
 have no : ∀ a o, s0.heap.get? a = some o -> a ∉ hs := fun a o e m => by rw [hn a m] at e; cases e
 refine ⟨?_, fun a o e => ?_, fun a o e h1 h2 => ?_, fun a o es n e d h1 => ?_⟩
 ·show ({ s with heap := h' } : Shared) = _
  rw [K.rest]
 ·obtain ⟨o₁, e₁⟩ := K.live a o e
  exact let ⟨o', q', _⟩ := N.same a o₁ (no a o e) e₁; ⟨o', q'⟩
 ·obtain ⟨o₁, e₁, q₁⟩ := K.kept a o e h1 h2
  obtain ⟨o₂, e₂, q₂⟩ := N.same a o₁ (no a o e) e₁
  exact ⟨o₂, e₂, q₁.trans q₂⟩
 ·obtain ⟨o₁, es1, n₁, e₁, d₁⟩ := K.dicts a o es n e d h1
  obtain ⟨o₂, e₂, q₂⟩ := N.same a o₁ (no a o e) e₁
  exact ⟨o₂, es1, n₁, e₂, q₂.data.trans d₁⟩
theorem xt {M : Model} {A : Around} {E : Value -> Shared -> Prop} {Q : Unit -> Shared -> Prop} {fr : Option Addr} (x : ExcR S X f U s.heap h₀ ea k) (hX : ∀ a ∈ X, ∃ o, h₀.get? a = some o)
  (hQ : ∀ h' hs, (∀ a ∈ hs, h₀.get? a = none) -> Noted S f s.heap h' hs -> Lk S X f U h' -> ExcR S X f U h' h₀ ea k -> Q () { s with heap := h' }) : wpAny M A (setFlight (.ref ea) fr) Q E s := by
 obtain ⟨e1, ec, hs, oe, vs, Lh, e4, e5, e6, e8⟩ := id x
 rcases e8 with ⟨rfl, v1⟩ | ⟨T, oT, ts, rfl, t0, t1, t2, t3, t4, t5⟩
 ·unfold setFlight
  refine wpAny_bind (wpAny_field e4 e6 v1 ?_)
  rw [if_neg (by decide)]
  refine wpAny_pure ?_
  exact hQ s.heap [] (fun a ha => nomatch ha) ⟨fun b o _ e => ⟨o, e, .refl o⟩, Lh.base, fun _ _ => rfl⟩ (Lh.less fun a ha => List.mem_append_right _ ha) x
 ·unfold setFlight
  refine wpAny_bind (wpAny_field e4 e6 t2 ?_)
  rw [if_pos (show (Value.ref T != Value.none) = true from by simp)]
  refine wpAny_setField t3 t4 t5 ?_
  generalize (fr.elim Value.none fun f => rawInt f) = z
  have hd3 := Obj.data_mapFields t4 (·.setIfInBounds 3 z)
  have hT := Heap.get?_update_self (Obj.mapFields (·.setIfInBounds 3 z)) t3 (Obj.isFreed_of_fields hd3)
  have other : ∀ b, b ≠ T -> (s.heap.update T (Obj.mapFields (·.setIfInBounds 3 z))).get? b = s.heap.get? b := fun b hb => Heap.get?_update_other _ _ (Ne.symm hb)
  have hfree : ∀ a ∈ [ea, T], h₀.get? a = none := fun a ha => by
   rcases List.mem_cons.mp ha with rfl | ha
   ·exact e1
   ·rw [List.mem_singleton.mp ha]; exact t0
  have hTm : T ∈ [ea, T] ++ X := List.mem_append_left _ (List.mem_cons_of_mem _ (List.mem_singleton.mpr rfl))
  have N : Noted S f s.heap (s.heap.update T (Obj.mapFields (·.setIfInBounds 3 z))) [ea, T] := by
   refine ⟨fun b o hb e => ⟨o, (other b fun q => hb (q ▸ List.mem_cons_of_mem _ (List.mem_singleton.mpr rfl))).trans e, .refl o⟩, fun b o e => ?_, fun b hb => other b fun q => ?_⟩
   ·exact (other b fun q => by rw [q, (Lh.hid T hTm).1] at e; cases e).trans (Lh.base b o e)
   ·exact (Lh.hid T hTm).2.1 (q ▸ hb)
  have hXs : ∀ a ∈ X, a ∉ [ea, T] := fun a ha m => by obtain ⟨o, e⟩ := hX a ha; rw [hfree a m] at e; cases e
  have L1 : Lk S ([ea, T] ++ X) f U (s.heap.update T (Obj.mapFields (·.setIfInBounds 3 z))) := N.lk Lh hXs fun a ha => ⟨.inl ha, by
   rcases List.mem_cons.mp ha with rfl | ha
   ·exact ⟨_, (other a (Ne.symm t1)).trans e4⟩
   ·rw [List.mem_singleton.mp ha]; exact ⟨_, hT⟩⟩
  refine hQ _ [ea, T] hfree N (L1.less fun a ha => List.mem_append_right _ ha) ⟨e1, ec, [ea, T], oe, vs, L1, (other ea (Ne.symm t1)).trans e4, e5, e6, .inr ⟨T, _, _, rfl, t0, t1, t2, hT, hd3, by rw [Array.size_setIfInBounds]; exact t5⟩⟩
theorem zGY {M : Model} {A : Around} {E : Value -> Shared -> Prop} {Q : Unit -> Shared -> Prop} {env : Env} {outer : List Env} {L : Addr} (hfr : A.frames = some (env :: outer)) (F : FrL S f s.heap (env :: outer)) (hf : env.frame = some L)
  (x : ExcR S X f U s.heap h₀ ea k) (hX : ∀ a ∈ X, ∃ o, h₀.get? a = some o) (hback : ∀ a, s.heap.get? a = none -> h₀.get? a = none)
  (hQ : ∀ h' hs oe vs T, (∀ a ∈ hs, h₀.get? a = none) -> Noted S f s.heap h' hs -> ExcR S X f U h' h₀ ea k -> h'.get? ea = some oe -> oe.data = .fields vs -> vs[1]? = some (.ref T) -> Q () { s with heap := h' }) :
  wpAny M A (noteFrame (.ref ea) env) Q E s := by
 have x0 := x
 obtain ⟨e1, ec, hs, oe, vs, Lh, e4, e5, e6, e8⟩ := x
 have hea : ea ∈ hs := by rcases e8 with ⟨rfl, _⟩ | ⟨T, _, _, rfl, _⟩ <;> exact List.mem_cons_self
 have hfree : ∀ a ∈ hs, h₀.get? a = none := by
  rcases e8 with ⟨rfl, _⟩ | ⟨T, _, _, rfl, t1, _⟩
  ·intro a ha; rw [List.mem_singleton.mp ha]; exact e1
  ·intro a ha
   rcases List.mem_cons.mp ha with rfl | ha
   ·exact e1
   ·rw [List.mem_singleton.mp ha]; exact t1
 have Fr : ∀ {a : Addr}, a ∈ zu (env :: outer) -> S.hb.get? a = none /\ a ∉ addrs f /\ ∃ o es n, s.heap.get? a = some o /\ o.data = .dict es n := FrL.mem F
 have hB : ∀ a ∈ zu (env :: outer) ++ hs, (xw s.heap (zu (env :: outer) ++ hs)).get? a = none := fun a ha => jD ha
 have hFF : s.heap.FunFrames (xw s.heap (zu (env :: outer) ++ hs)) (env :: outer) := F.fun fun a ha => hB a (List.mem_append_left _ ha)
 have hst := zBs s.heap (zu (env :: outer) ++ hs)
 have fin : ∀ h', zAw (xw s.heap (zu (env :: outer) ++ hs)) ea oe.cls s.heap h' -> Q () { s with heap := h' } := fun h' q => by
  obtain ⟨q1, oe', vs', T', oT', ts', p1, p2, p3, p4, p5, p6, p7, p8, p9, q4⟩ := q
  have exact' : ∀ b o, b ∉ zu (env :: outer) -> b ∉ hs -> s.heap.get? b = some o -> h'.get? b = some o := fun b o h1 h2 e =>
   q1 b o ((wP fun m => (List.mem_append.mp m).elim h1 h2).trans e)
  have same : ∀ b o, b ∉ hs -> s.heap.get? b = some o -> ∃ o', h'.get? b = some o' /\ SameObj o o' := fun b o h2 e => by
   by_cases h1 : b ∈ zu (env :: outer)
   ·obtain ⟨_, _, o2, es, n, r1, r2⟩ := Fr h1
    rw [e] at r1; cases r1
    obtain ⟨sl, r3⟩ := q4 b o e fun vs q => by rw [r2] at q; cases q
    exact ⟨_, r3, .inr ⟨⟨es, n, r2⟩, rfl, rfl, rfl⟩⟩
   ·exact ⟨o, exact' b o h1 h2 e, .refl o⟩
  have hT' : T' ∈ hs \/ s.heap.get? T' = none := by
   cases e : s.heap.get? T' with
   | none => exact .inr rfl
   | some o =>
    by_cases m : T' ∈ zu (env :: outer) ++ hs
    ·rcases List.mem_append.mp m with m | m
     ·obtain ⟨_, _, o2, es, n, r1, r2⟩ := Fr m
      obtain ⟨sl, r3⟩ := q4 T' o2 r1 fun vs q => by rw [r2] at q; cases q
      rw [p7] at r3; cases r3
      rw [r2] at p8; cases p8
     ·exact .inl m
    ·rw [wP m, e] at p5; first | exact zB p5 | exact zF p5 | cases p5
  have N : Noted S f s.heap h' hs := by
   refine ⟨same, fun b o e => ?_, fun b hb => ?_⟩
   ·have hb : s.heap.get? b = some o := Lh.base b o e
    refine exact' b o (fun m => ?_) (fun m => ?_) hb
    ·rw [(Fr m).1] at e; first | exact zB e | exact zF e | cases e
    ·rw [(Lh.hid b (List.mem_append_left _ m)).1] at e; first | exact zB e | exact zF e | cases e
   ·obtain ⟨o, e⟩ := Lh.live hb
    rw [e]
    exact exact' b o (fun m => (Fr m).2.1 hb) (fun m => (Lh.hid b (List.mem_append_left _ m)).2.1 hb) e
  have hXs : ∀ a ∈ X, a ∉ hs := fun a ha m => by obtain ⟨o, e⟩ := hX a ha; rw [hfree a m] at e; cases e
  have L1 : Lk S ([ea, T'] ++ X) f U h' := N.lk Lh hXs fun a ha => by
   rcases List.mem_cons.mp ha with rfl | ha
   ·exact ⟨.inl hea, _, p1⟩
   ·obtain rfl := List.mem_singleton.mp ha; exact ⟨hT', _, p7⟩
  refine hQ h' hs oe' vs' T' hfree N ⟨e1, ec, [ea, T'], oe', vs', L1, p1, p2.trans e5, p3, .inr ⟨T', oT', ts', rfl, ?_, p6, p4, p7, p8, p9⟩⟩ p1 p3 p4
  rcases hT' with m | m
  ·exact hfree T' m
  ·exact hback T' m
 rcases e8 with ⟨rfl, v1⟩ | ⟨T, oT, ts, rfl, t0, t1, t2, t3, t4, t5⟩
 ·exact zFW hfr hFF hf e4 hst (hB ea (List.mem_append_right _ hea)) e6 v1 fin
 ·exact zHd hfr hFF hf e4 hst (hB ea (List.mem_append_right _ hea)) e6 t2 (hB T (List.mem_append_right _ (List.mem_cons_of_mem _ (List.mem_singleton.mpr rfl)))) t1 t3 t4 (Array.getElem?_eq_getElem t5) (hQ s.heap [] oe vs T (fun a ha => nomatch ha) ⟨fun b o _ e => ⟨o, e, .refl o⟩, Lh.base, fun _ _ => rfl⟩ x0 e4 e6 t2) fin
theorem zBY {M : Model} {A : Around} {E : Value -> Shared -> Prop} {Q : Unit -> Shared -> Prop} {env : Env} {outer : List Env} {L : Addr} (hfr : A.frames = some (env :: outer)) (F : FrL S f s.heap (env :: outer)) (hf : env.frame = some L)
  (x : ExcR S X f U s.heap s0.heap ea k) (hX : ∀ a ∈ X, ∃ o, s0.heap.get? a = some o) (kp : Kp f0 Y s0 s)
  (hQ : ∀ h', Kp f0 Y s0 { s with heap := h' } -> Lk S X f U h' -> ExcR S X f U h' s0.heap ea k -> Q () { s with heap := h' }) :
  wpAny M A (noteFrame (.ref ea) env) (fun _ s₂ => wpAny M A (setFlight (.ref ea) none) Q E s₂) E s :=
 zGY hfr F hf x hX (fun _ h => zw kp.live h) fun h₁ hs _ _ _ h1 N x1 _ _ _ => xt (s := { s with heap := h₁ }) x1 hX fun h₂ hs2 h2 N2 L2 x2 => hQ h₂ (N2.kp (N.kp kp h1) h2) L2 x2
theorem wu {e : Value} {env env' : Env} (h : env'.frame = env.frame) : noteFrame e env = noteFrame e env' := by
 unfold noteFrame PySem.frameOf
 rw [h]
end
end Mine
end

section
namespace Mine
open PySem PyProof.Rows
section
variable {S : zO} {C : Ctx} {T : Nat -> Option Fn} {F : Calls} {q : Bool} {d : Nat} {H : List Str} {sc : Scope}
theorem Lk.ofBase {X : List Addr} {f : List Loc} {U : Sto} {h : Heap} (L : Lk S X f U h) {v : V} {w : Value} (r : VR S [] [] S.hb v w) : VR S X f h v w :=
 VR.keep (fun i l e => by simp at e) (fun a o ho _ _ => ⟨⟨fun q => (by rw [L.fresh a q] at ho; cases ho), fun q => (by rw [(L.hid a q).1] at ho; cases ho)⟩, o, L.base a o ho, .refl o⟩) v w r
theorem Lk.ns {X : List Addr} {f : List Loc} {U : Sto} {h : Heap} {a : Addr} {m : Str -> Option Value} (L : Lk S X f U h) (n : S.hb.Ns a m) : h.Ns a m := by
 obtain ⟨o, es, ep, ho, r⟩ := n
 exact ⟨o, es, ep, L.base a o ho, r⟩
theorem zL6 {k pos} : EOk S F q d H sc (.Constant .none k pos) (.lit .none) := fun env J f X U s A st _ => by
 rw [zAs]
 exact wpAny_Constant_none (.leaf st.lk (.refl s) (rfl))
theorem zL1 {b k pos} : EOk S F q d H sc (.Constant (.bool b) k pos) (.lit (.bool b)) := fun env J f X U s A st _ => by
 rw [zAs]
 exact wpAny_Constant_bool (.leaf st.lk (.refl s) (rfl))
theorem zN7 {i k pos} : EOk S F q d H sc (.Constant (.int i) k pos) (.lit (.int i)) := fun env J f X U s A st _ => by
 rw [zAs]
 exact wpAny_Constant_int (.leaf st.lk (.toks s _) (⟨_, rfl⟩))
theorem zKc {x : Str} {k pos} (h : (x.length <= 1000 && PyData.strOk x) = true) : EOk S F q d H sc (.Constant (.str x) k pos) (.lit (.str x)) := fun env J f X U s A st _ => by
 rw [zAs]
 rw [Bool.and_eq_true] at h
 have := of_decide_eq_true h.1
 exact wpAny_Constant_str (.leaf st.lk (.toks s _) (⟨⟨_, rfl⟩, by unfold LIM; omega, h.2⟩))
theorem zHU {env : Env} {x : Str} {w : Value} {s : Shared} {A : Around} {Q : Value -> Shared -> Prop} {E : Value -> Shared -> Prop} (hk : env.scope.kind = .function) (hc : (x == ("__classdict__" : Str)) = false) (n : NameIs env s.heap x w) (h : Q w s) :
  wpAny (model S.prog S.w) A (loadName env x) Q E s := by
 rcases n with ⟨h1, m, h2, h3⟩ | ⟨h1, c, h2, h3⟩
 ·exact wpAny_loadName_local hk h1 h2 h3 h
 ·rcases h1 with h1 | h1
  ·exact wpAny_loadName_cell hk h1 h2 h3 h
  ·exact wpAny_loadName_free hk h1 h2 h3 h hc
theorem zDQ {J : List V} {i : Nat} {v : V} (h : zI J i = some v) : J[i]? = some v /\ v ≠ .undef := by
 unfold zI at h
 split at h
 ·first | exact zB h | exact zF h | cases h
 ·first | exact zB h | exact zF h | cases h
 ·rename_i w h1 h2
  cases h
  exact ⟨h2, fun e => h1 e⟩
theorem zL5 (fs : zW S C T) {x : Str} {pos : Pos} {c : CE} (h : zF5 C H sc x = some c) : EOk S F q d H sc (.Name x pos) c := fun env J f X U s A st hne => by
 unfold zF5 at h
 split at h
 ·first | exact zB h | exact zF h | cases h
 rename_i hn
 simp only [Bool.or_eq_true, not_or, Bool.not_eq_true] at hn
 refine wpAny_Name ?_ hn.1
 split at h
 ·rename_i hv
  simp only [Option.map_eq_some_iff] at h
  obtain ⟨i, hi, rfl⟩ := h
  rw [zp] at hne ⊢
  cases hr : zI J i with
  | none => rw [hr] at hne; exact absurd rfl hne
  | some v =>
   obtain ⟨h1, h2⟩ := zDQ hr
   obtain ⟨w, n, r⟩ := st.fr.vals x i v hv hi h1 h2
   exact zHU st.fr.kind hn.2 n (QS.leaf st.lk (.refl s) r)
 ·split at h
  ·rename_i hg
   simp only [Option.map_eq_some_iff] at h
   obtain ⟨v, hv, rfl⟩ := h
   rw [zAs]
   obtain ⟨mg, mb, g1, g2, g3, _⟩ := fs.g
   obtain ⟨w, e1, e2⟩ := g3 x v hv
   exact wR st.fr.kind (st.fr.isGlob hg) (by rw [st.fr.glob]; exact st.lk.ns g1) e1 (QS.leaf st.lk (.refl s) (st.lk.ofBase e2))
  ·first | exact zB h | exact zF h | cases h
theorem yf {β : Type} {U : Sto} {o : Option β} (h : R.lift U o ≠ .stuck) : ∃ x, o = some x := by
 cases o with
 | none => exact absurd rfl h
 | some x => exact ⟨x, rfl⟩
theorem zG7 {X : List Addr} {f : List Loc} {U : Sto} {s : Shared} {A : Around} {E : Value -> Shared -> Prop} {op : Operator} {o : P2} {a b x : V} {va vb : Value} (ho : zBv op = some o) (L : Lk S X f U s.heap) (e : ev2 o U a b = some x) (ra : VR S X f s.heap a va) (rb : VR S X f s.heap b vb) :
  wpAny (model S.prog S.w) A (binaryOp op va vb) (PE S X f s x) E s := by
 by_cases hop : op = .Add
 ·subst hop
  cases ho
  exact zGz L e ra rb
 ·have : ∃ i j, a = .int i /\ b = .int j := by
   cases op <;> first | exact absurd rfl hop | (cases ho; done) | (cases ho; exact kK e)
  obtain ⟨i, j, rfl, rfl⟩ := this
  obtain ⟨t, rfl⟩ := zy ra
  obtain ⟨u, rfl⟩ := zy rb
  exact zF1 ho e
theorem zDi {op : Operator} {o : P2} (h : zBv op = some o) : wb o = false := by
 cases op <;> first | (cases h; rfl) | exact zB h
theorem xe {op : CmpOp} {o : P2} (h : wN op = some o) : wb o = false := by
 cases op <;> first | (cases h; rfl) | exact zB h
theorem zKR {l r : Expr} {op : Operator} {pos : Pos} {o : P2} {a b : CE} (ho : zBv op = some o) (hl : EOk S F q d H sc l a) (hr : EOk S F q d H sc r b) : NOk S F q d H sc (.BinOp l op r pos) (.p2 o a b) := fun env J f X U s A st hne => by
 rw [zI5, zDi ho, Bool.false_and, if_neg (by simp)] at hne ⊢
 refine wpAny_BinOp ?_
 refine Sim.goN (hl env J f X U s A st) hne (fun _ _ x => x) (fun _ _ x => x) fun va a' U1 g₁ s₁ hne hg k L ra hQ hE => ?_
 have st₁ := st.keep hg k L
 refine Sim.goN (hr env J _ X U1 s₁ A st₁) hne hQ hE fun vb b' U2 g₂ s₂ hne hg₂ k₂ L₂ rb hQ hE => ?_
 obtain ⟨x, hx⟩ := yf hne
 rw [hx] at hQ
 exact wpAny_mono (zG7 ho L₂ hx (VR.keepK k₂ hg₂ (fun _ h => nomatch h) ra) rb) (fun v s' p => hQ v s' (p.here L₂)) fun _ _ x => x
end
end Mine
end

section
namespace Mine
open PySem PyProof.Rows
section
variable {S : zO} {C : Ctx} {T : Nat -> Option Fn} {F : Calls} {q : Bool} {d : Nat} {H : List Str} {sc : Scope}
variable {X : List Addr} {f : List Loc} {U : Sto} {s : Shared} {A : Around} {E : Value -> Shared -> Prop}
theorem Lk.parts {h : Heap} (fs : zW S C T) (L : Lk S X f U h) : wl S h := fun hh => by
 obtain ⟨d, g, e, hd, hm, hg⟩ := fs.parts hh
 refine ⟨d, g, e, hd, ?_, hg⟩
 obtain ⟨o, es, ep, ho, r⟩ := hm
 exact ⟨o, es, ep, L.base d o ho, r⟩
theorem zD1 {a b : V} {va vb : Value} {r : Bool} (hu : A.units + 64 < cLine) (L : Lk S X f U s.heap) (e : eqV U a b = some r) (ra : VR S X f s.heap a va) (rb : VR S X f s.heap b vb) :
  wpAny (model S.prog S.w) A (compareOp .Eq va vb) (PE S X f s (.bool r)) E s /\ wpAny (model S.prog S.w) A (compareOp .NotEq va vb) (PE S X f s (.bool !r)) E s := by
 unfold eqV at e
 split at e
 ·rename_i xs ys h1 h2
  split at e
  ·rename_i hne
   cases e
   obtain ⟨p, vs, n, rfl, il, rs, hl⟩ := yE L h1 ra
   obtain ⟨p2, vs2, n2, rfl, il2, rs2, hl2⟩ := yE L h2 rb
   have hsz : (vs.size != vs2.size) = true := by rw [zY rs, zY rs2]; exact hne
   exact ⟨P.eq_list_lengths il il2 hsz (by omega) .bool0, SeqAt.RcNeAt.lists_lengths ⟨_, il, rfl, n, rfl⟩ ⟨_, il2, rfl, n2, rfl⟩ hsz (by omega) _ _ _ _ .bool0⟩
  ·exact zBy hu L e ra rb
 ·exact zBy hu L e ra rb
theorem wX {op : CmpOp} {o : P2} (fs : zW S C T) (hu : A.units + 64 < cLine) (ho : wN op = some o) {a b x : V} {va vb : Value} (L : Lk S X f U s.heap) (e : ev2 o U a b = some x) (ra : VR S X f s.heap a va) (rb : VR S X f s.heap b vb) :
  wpAny (model S.prog S.w) A (compareOp op va vb) (PE S X f s x) E s := by
 by_cases h : op ≠ .Eq /\ op ≠ .NotEq /\ op ≠ .In /\ op ≠ .NotIn
 ·obtain ⟨i, j, rfl, rfl⟩ := zJV ho h e
  obtain ⟨t, rfl⟩ := zy ra
  obtain ⟨u, rfl⟩ := zy rb
  exact zLZ ho h e
 ·have h' : op = .Eq \/ op = .NotEq \/ op = .In \/ op = .NotIn := by
   by_cases h1 : op = .Eq
   ·exact .inl h1
   by_cases h2 : op = .NotEq
   ·exact .inr (.inl h2)
   by_cases h3 : op = .In
   ·exact .inr (.inr (.inl h3))
   by_cases h4 : op = .NotIn
   ·exact .inr (.inr (.inr h4))
   exact absurd ⟨h1, h2, h3, h4⟩ h
  rcases h' with rfl | rfl | rfl | rfl <;> cases ho
  ·delta ev2 at e; dsimp only at e; simp only [Option.map_eq_some_iff] at e
   obtain ⟨r, h1, rfl⟩ := e
   exact (zD1 hu L h1 ra rb).1
  ·delta ev2 at e; dsimp only at e; simp only [Option.map_eq_some_iff] at e
   obtain ⟨r, h1, rfl⟩ := e
   exact (zD1 hu L h1 ra rb).2
  ·delta ev2 at e; dsimp only at e; simp only [Option.map_eq_some_iff] at e
   obtain ⟨r, h1, rfl⟩ := e
   exact (zEI (L.parts fs) L h1 ra rb).1
  ·delta ev2 at e; dsimp only at e; simp only [Option.map_eq_some_iff] at e
   obtain ⟨r, h1, rfl⟩ := e
   exact (zEI (L.parts fs) L h1 ra rb).2
theorem St.room {env : Env} {J : List V} (st : St S q d H sc env J f X U s A) : A.units + 64 < cLine := by
 have := st.cx.units
 have : cLine = 9900 := rfl
 omega
theorem zCt {v : V} {w : Value} {β : Type} {rk : Bool -> Sto -> R β} {W : Bool -> Shared -> Prop} (L : Lk S X f U s.heap) (r : VR S X f s.heap v w) (hne : (R.lift U (truthy U v)).bind rk ≠ .stuck)
  (hk : ∀ t s', truthy U v = some t -> Ext s s' -> rk t U ≠ .stuck -> W t s') : wpAny (model S.prog S.w) A (PySem.truthy w) W E s := by
 cases h : truthy U v with
 | none => rw [h] at hne; exact absurd rfl hne
 | some t =>
  rw [h] at hne
  exact wpAny_mono (yY L h r) (fun c s' q => by obtain ⟨rfl, e⟩ := q; exact hk c s' h e hne) fun _ _ x => x
theorem QS.moved {α β : Type} {Y : List Addr} {P : α -> β -> List Loc -> Shared -> Prop} {r : R β} {a : α} {s₁ s' : Shared} (e : Ext s s₁) (h : QS S X Y f P s₁ r a s') : QS S X Y f P s r a s' :=
 QS.lifts f [] s s₁ r a s' (.nil s) (e.kp f Y) (by rwa [List.append_nil])
theorem QN.moved {Y : List Addr} {r : R V} {a : Value} {s₁ s' : Shared} (e : Ext s s₁) (h : QN S X Y f s₁ r a s') : QN S X Y f s r a s' :=
 QN.lifts f [] s s₁ r a s' (.nil s) (e.kp f Y) (by rwa [List.append_nil])
theorem ES.moved {β : Type} {Y : List Addr} {tr : Bool} {r : R β} {a : Value} {s₁ s' : Shared} (e : Ext s s₁) (h : ES S X Y f tr s₁ r a s') : ES S X Y f tr s r a s' :=
 ES.lifts f [] s s₁ r a s' (.nil s) (e.kp f Y) (by rwa [List.append_nil])
theorem St.moved {env : Env} {J : List V} {s' : Shared} (st : St S q d H sc env J f X U s A) (e : Ext s s') : St S q d H sc env J f X U s' A := by
 have := st.keep (g := []) (.nil s) (e.kp f []) (by rw [List.append_nil]; exact e.lk st.lk)
 rwa [List.append_nil] at this
theorem QS.bool {Y : List Addr} {b : Bool} {s' : Shared} (L : Lk S X f U s.heap) (e : Ext s s') : QS S X Y f (fun b t _ _ => b = t) s (.ok b U) b s' :=
 ⟨b, U, [], rfl, .nil s, e.kp f Y, by rw [List.append_nil]; exact e.lk L, rfl⟩
theorem zMg {e e' : Expr} {c : CE} {o : P1} {t : Value -> Sem Value} (hq : (kg o && q) = false) (h : EOk S F q d H sc e c)
  (rule : ∀ (env : Env) (A : Around) (Q E : Value -> Shared -> Prop) (s : Shared), wpAny (model S.prog S.w) A (eval e env) (fun v s₁ => wpAny (model S.prog S.w) A (t v) Q E s₁) E s -> wpAny (model S.prog S.w) A (eval e' env) Q E s)
  (op : ∀ (X : List Addr) (f : List Loc) (U : Sto) (s : Shared) (A : Around) (E : Value -> Shared -> Prop) (a x : V) (va : Value), (q = false -> A.handled = none) -> Lk S X f U s.heap -> ev1 o U a = some x -> VR S X f s.heap a va -> wpAny (model S.prog S.w) A (t va) (PE S X f s x) E s) :
  NOk S F q d H sc e' (.p1 o c) := fun env J f X U s A st hne => by
 rw [zLA, hq, if_neg (by simp)] at hne ⊢
 refine rule _ _ _ _ _ ?_
 refine Sim.goN (h env J f X U s A st) hne (fun _ _ x => x) (fun _ _ x => x) fun va a' U1 g₁ s₁ hne hg k L ra hQ hE => ?_
 obtain ⟨x, hx⟩ := yf hne
 rw [hx] at hQ
 exact wpAny_mono (op X _ U1 s₁ A _ a' x va st.cx.hand L hx ra) (fun v s' p => hQ v s' (p.here L)) fun _ _ x => x
theorem zOB {e : Expr} {c : CE} {pos : Pos} (h : EOk S F q d H sc e c) : EOk S F q d H sc (.UnaryOp .Not e pos) (.p1 .not c) :=
 NOk.eok <| zMg rfl h (fun env A Q E s h => UnaryOp_ h) fun X f U s A E a x va _ L hx ra => by
  delta ev1 at hx; dsimp only at hx; simp only [Option.map_eq_some_iff] at hx
  obtain ⟨b, hb, rfl⟩ := hx
  exact not_of (wpAny_mono (yY L hb ra) (fun c s' q => by obtain ⟨rfl, e⟩ := q; exact ⟨e, rfl, fun _ e => by cases e⟩) fun _ _ x => x)
theorem zN8 {e : Expr} {c : CE} {pos : Pos} (h : EOk S F q d H sc e c) : EOk S F q d H sc (.UnaryOp .USub e pos) (.p1 .neg c) :=
 NOk.eok <| zMg rfl h (fun env A Q E s h => UnaryOp_ h) fun X f U s A E a x va _ L hx ra => by
  cases a with
  | int i => cases hx; obtain ⟨t, rfl⟩ := zy ra; exact zHa
  | _ => first | exact zB hx | exact zF hx | cases hx
theorem zMh {l r e' : Expr} {a b : CE} {o : P2} {t : Value -> Value -> Sem Value} (hq : (wb o && q) = false) (hl : EOk S F q d H sc l a) (hr : EOk S F q d H sc r b)
  (rule : ∀ (env : Env) (A : Around) (Q E : Value -> Shared -> Prop) (s : Shared), wpAny (model S.prog S.w) A (eval l env) (fun v s₁ => wpAny (model S.prog S.w) A (eval r env) (fun w s₂ => wpAny (model S.prog S.w) A (t v w) Q E s₂) E s₁) E s -> wpAny (model S.prog S.w) A (eval e' env) Q E s)
  (op : ∀ (X : List Addr) (f : List Loc) (U : Sto) (s : Shared) (A : Around) (E : Value -> Shared -> Prop) (a b x : V) (va vb : Value), (q = false -> A.handled = none) -> A.units + 64 < cLine -> Lk S X f U s.heap -> ev2 o U a b = some x -> VR S X f s.heap a va -> VR S X f s.heap b vb -> wpAny (model S.prog S.w) A (t va vb) (fun v s' => Ext s s' /\ VR S X f s'.heap x v) E s) :
  EOk S F q d H sc e' (.p2 o a b) := fun env J f X U s A st hne => by
 rw [zI5, hq, if_neg (by simp)] at hne ⊢
 refine rule _ _ _ _ _ ?_
 refine Sim.goQ (P' := PV S X) (hl env J f X U s A st) hne (fun _ _ x => x) (fun _ _ x => x) fun va a' U1 g₁ s₁ hne hg k L ra hQ hE => ?_
 have st₁ := st.keep hg k L
 refine Sim.goQ (P' := PV S X) (hr env J _ X U1 s₁ A st₁) hne hQ hE fun vb b' U2 g₂ s₂ hne hg₂ k₂ L₂ rb hQ hE => ?_
 obtain ⟨x, hx⟩ := yf hne
 rw [hx] at hQ
 exact wpAny_mono (op X _ U2 s₂ A _ a' b' x va vb st.cx.hand st.room L₂ hx (VR.keepK k₂ hg₂ (fun _ h => nomatch h) ra) rb) (fun v s' p => hQ v s' (.leaf L₂ p.1 p.2)) fun _ _ x => x
theorem PE.weak {x : V} {v : Value} {s' : Shared} (p : PE S X f s x v s') : Ext s s' /\ VR S X f s'.heap x v := ⟨p.1, p.2.1⟩
theorem zN4 {l r : Expr} {a b : CE} {op : CmpOp} {o : P2} {pos : Pos} (fs : zW S C T) (ho : wN op = some o) (hm : behindInMarks op r = false) (hl : EOk S F q d H sc l a) (hr : EOk S F q d H sc r b) :
  EOk S F q d H sc (.Compare l [op] [r] pos) (.p2 o a b) :=
 zMh (by rw [xe ho, Bool.false_and]) hl hr (fun env A Q E s h => wpAny_Compare1 h hm) fun X f U s A E a b x va vb _ hu L hx ra rb => wpAny_mono (wX fs hu ho L hx ra rb) (fun _ _ p => p.weak) fun _ _ x => x
end
end Mine
end

section
namespace Mine
open PySem PyProof.Rows
structure GOk (S : zO) (F : Calls) (q : Bool) (d : Nat) (H : List Str) (sc : Scope) (e : Expr) (c : CE) : Prop where
 eo : EOk S F q d H sc e c
 to : TOk S F q d H sc e c
 star : isStar e = false
 marks : ∀ op, behindInMarks op e = false
 fold : ∀ env x, foldedSetIterable e env x = pure x
inductive All2 {α β : Type} (P : α -> β -> Prop) : List α -> List β -> Prop where
 | nil : All2 P [] []
 | cons {a : α} {b : β} {as : List α} {bs : List β} : P a b -> All2 P as bs -> All2 P (a :: as) (b :: bs)
section
variable {S : zO} {C : Ctx} {T : Nat -> Option Fn} {F : Calls} {q : Bool} {d : Nat} {H : List Str} {sc : Scope}
variable {X : List Addr} {f : List Loc} {U : Sto} {s : Shared} {A : Around} {E : Value -> Shared -> Prop}
theorem TOk.plain {e : Expr} {c : CE} (h : EOk S F q d H sc e c) (he : ∀ env whole, isTrue e env whole = (do let v <- whole; standAt e.pos; holding [v] (PySem.truthy v))) : TOk S F q d H sc e c := fun env J f X U s A st hne => by
 refine isTrue_plain ?_ (he env _)
 refine Sim.goQ (P' := fun b t _ _ => b = t) (h env J f X U s A st) hne (fun _ _ x => x) (fun _ _ x => x) fun va a' U1 g₁ s₁ hne hg k L ra hQ hE => ?_
 obtain ⟨x, hx⟩ := yf hne
 rw [hx] at hQ
 exact wpAny_mono (yY L hx ra) (fun c s' p => by obtain ⟨rfl, e⟩ := p; exact hQ c s' (.bool L e)) fun _ _ x => x
theorem TOk.not {e : Expr} {c : CE} {pos : Pos} (h : TOk S F q d H sc e c) : TOk S F q d H sc (.UnaryOp .Not e pos) (.p1 .not c) := fun env J f X U s A st hne => by
 have key : ((evE F q (.p1 .not c) J U).bind fun v U => R.lift U (truthy U v)) = ((evE F q c J U).bind fun v U => R.lift U (truthy U v)).bind fun b U => .ok (!b) U := by
  rw [zLA, show kg .not = false from rfl, Bool.false_and, if_neg (by simp), R.bind_assoc, R.bind_assoc]
  congr 1
  funext v U'
  show R.bind (R.lift U' ((truthy U' v).map fun b => V.bool !b)) _ = _
  cases truthy U' v <;> rfl
 rw [key] at hne ⊢
 refine isTrue_not ?_
 refine Sim.goQ (P' := fun b t _ _ => b = t) (h env J f X U s A st) hne (fun _ _ x => x) (fun _ _ x => x) fun va a' U1 g₁ s₁ hne hg k L ra hQ hE => ?_
 have ra : va = a' := ra
 subst ra
 exact hQ _ _ (.bool L (.refl s₁))
theorem wn {op : CmpOp} {o : P2} (ho : wN op = some o) {U : Sto} {a b x : V} (h : ev2 o U a b = some x) : ∃ t, x = .bool t := by
 cases op <;> cases ho
 all_goals first
  | (obtain ⟨r, _, rfl⟩ := Option.map_eq_some_iff.mp h; exact ⟨_, rfl⟩)
  | (obtain ⟨i, j, rfl, rfl⟩ := kK h; cases h; exact ⟨_, rfl⟩)
theorem zF8 (fs : zW S C T) {pos : Pos} : ∀ {ops : List CmpOp} {os : List P2} {es : List Expr} {cs : List CE}, All2 (fun op o => wN op = some o) ops os -> All2 (GOk S F q d H sc) es cs -> ops.length = es.length ->
  ∀ (env : Env) (J : List V) (f : List Loc) (X : List Addr) (U : Sto) (s : Shared) (A : Around) (a : V) (va : Value), St S q d H sc env J f X U s A -> VR S X f s.heap a va ->
   Sim S A X [] f (PV S X) (compareChain pos va ops (evalEach es env)) (evChain F q os cs a J U) s /\
   Sim S A X [] f (fun b t _ _ => b = t) (testChain pos va ops (evalEach es env)) ((evChain F q os cs a J U).bind fun v U => R.lift U (truthy U v)) s := by
 intro ops os es cs ho
 induction ho generalizing es cs with
 | nil =>
  intro hes hlen env J f X U s A a va st ra
  cases hes with
  | nil => exact ⟨fun h => absurd rfl h, fun h => absurd rfl h⟩
  | cons _ _ => simp at hlen
 | @cons op o ops os h1 h2 ih =>
  intro hes hlen env J f X U s A a va st ra
  cases hes with
  | nil => simp at hlen
  | @cons e c es cs he hes =>
   cases h2 with
   | nil =>
    cases hes with
    | nil =>
     constructor
     ·intro hne
      rw [zGr, xe h1, Bool.false_and, if_neg (by simp)] at hne ⊢
      refine chain_last ?_
      refine Sim.goQ (P' := PV S X) (he.eo env J f X U s A st) hne (fun _ _ x => x) (fun _ _ x => x) fun vb b' U1 g₁ s₁ hne hg k L rb hQ hE => ?_
      obtain ⟨x, hx⟩ := yf hne
      rw [hx] at hQ
      exact wpAny_mono (wX fs st.room h1 L hx (VR.keepK k hg (fun _ h => nomatch h) ra) rb) (fun v s' p => hQ v s' (.leaf L p.1 p.2.1)) fun _ _ x => x
     ·intro hne
      rw [zGr, xe h1, Bool.false_and, if_neg (by simp), R.bind_assoc] at hne ⊢
      refine test_last ?_
      refine Sim.goQ (P' := fun b t _ _ => b = t) (he.eo env J f X U s A st) hne (fun _ _ x => x) (fun _ _ x => x) fun vb b' U1 g₁ s₁ hne hg k L rb hQ hE => ?_
      cases hx : ev2 o U1 a b' with
      | none => rw [hx] at hne; exact absurd rfl hne
      | some x =>
       rw [hx] at hne hQ
       obtain ⟨t, rfl⟩ := wn h1 hx
       refine wpAny_mono (wX fs st.room h1 L hx (VR.keepK k hg (fun _ h => nomatch h) ra) rb) (fun v s' p => ?_) fun _ _ x => x
       obtain rfl := wz p.2.1
       exact wpAny_mono (yY (p.1.lk L) (b := t) rfl p.2.1) (fun c s'' p2 => by obtain ⟨rfl, e⟩ := p2; exact hQ c s'' (.bool L (p.1.trans e))) fun _ _ x => x
    | cons _ _ => simp at hlen
   | @cons op' o' ops os h1' h2' =>
    cases hes with
    | nil => simp at hlen
    | @cons e2 c2 es cs he2 hes2 =>
     constructor
     ·intro hne
      rw [zGs, xe h1, Bool.false_and, if_neg (by simp)] at hne ⊢
      refine chain_link ?_
      refine Sim.goQ (P' := PV S X) (he.eo env J f X U s A st) hne (fun _ _ x => x) (fun _ _ x => x) fun vb b' U1 g₁ s₁ hne hg k L rb hQ hE => ?_
      cases hx : ev2 o U1 a b' with
      | none => rw [hx] at hne; exact absurd rfl hne
      | some x =>
       rw [hx] at hne hQ hE
       obtain ⟨t, rfl⟩ := wn h1 hx
       refine wpAny_mono (wX fs st.room h1 L hx (VR.keepK k hg (fun _ h => nomatch h) ra) rb) (fun v s' p => ?_) fun _ _ x => x
       obtain rfl := wz p.2.1
       refine wpAny_mono (yY (p.1.lk L) (b := t) rfl p.2.1) (fun c s'' p2 => ?_) fun _ _ x => x
       obtain ⟨rfl, e⟩ := p2
       have ee := p.1.trans e
       have st₂ := (st.keep hg k L).moved ee
       cases c with
       | true => exact wpAny_mono ((ih (.cons he2 hes2) (by simpa using hlen) env J _ X U1 s'' A b' vb st₂ (ee.vr rb)).1 hne) (fun v s3 q3 => hQ v s3 (.moved ee q3)) fun v s3 q3 => hE v s3 (.moved ee q3)
       | false => exact hQ _ _ (.leaf L ee (rfl))
     ·intro hne
      rw [zGs, xe h1, Bool.false_and, if_neg (by simp), R.bind_assoc] at hne ⊢
      refine test_link ?_
      refine Sim.goQ (P' := fun b t _ _ => b = t) (he.eo env J f X U s A st) hne (fun _ _ x => x) (fun _ _ x => x) fun vb b' U1 g₁ s₁ hne hg k L rb hQ hE => ?_
      cases hx : ev2 o U1 a b' with
      | none => rw [hx] at hne; exact absurd rfl hne
      | some x =>
       rw [hx] at hne hQ hE
       obtain ⟨t, rfl⟩ := wn h1 hx
       refine wpAny_mono (wX fs st.room h1 L hx (VR.keepK k hg (fun _ h => nomatch h) ra) rb) (fun v s' p => ?_) fun _ _ x => x
       obtain rfl := wz p.2.1
       refine wpAny_mono (yY (p.1.lk L) (b := t) rfl p.2.1) (fun c s'' p2 => ?_) fun _ _ x => x
       obtain ⟨rfl, e⟩ := p2
       have ee := p.1.trans e
       have st₂ := (st.keep hg k L).moved ee
       cases c with
       | true => exact wpAny_mono ((ih (.cons he2 hes2) (by simpa using hlen) env J _ X U1 s'' A b' vb st₂ (ee.vr rb)).2 hne) (fun v s3 q3 => hQ v s3 (.moved ee q3)) fun v s3 q3 => hE v s3 (.moved ee q3)
       | false => exact hQ _ _ (.bool L ee)
theorem jQ : ∀ {ops : List CmpOp} {es : List Expr} {cs : List CE}, All2 (GOk S F q d H sc) es cs -> lastMarks ops es = false := by
 intro ops es cs h
 induction h generalizing ops with
 | nil => cases ops <;> simp [lastMarks]
 | @cons e c es cs he hes ih =>
  cases ops with
  | nil => simp [lastMarks]
  | cons op ops =>
   cases ops with
   | nil => cases es with
    | nil => simp only [lastMarks]; exact he.marks op
    | cons _ _ => simp only [lastMarks]
   | cons op2 ops => simp only [lastMarks]; exact ih
theorem zKU (fs : zW S C T) {l : Expr} {a : CE} {ops : List CmpOp} {os : List P2} {es : List Expr} {cs : List CE} {pos : Pos} (hl : EOk S F q d H sc l a) (ho : All2 (fun op o => wN op = some o) ops os) (hes : All2 (GOk S F q d H sc) es cs) (hlen : ops.length = es.length) :
  EOk S F q d H sc (.Compare l ops es pos) (.chain a os cs) /\ TOk S F q d H sc (.Compare l ops es pos) (.chain a os cs) := by
 constructor
 ·intro env J f X U s A st hne
  rw [zA8] at hne ⊢
  show wpAny _ _ (do compareChain pos (<- eval l env) ops (markedEach ops es (evalEach es env))) _ _ _
  rw [markedEach_of_false _ _ _ (jQ hes)]
  refine wpAny_bind ?_
  refine Sim.goQ (P' := PV S X) (hl env J f X U s A st) hne (fun _ _ x => x) (fun _ _ x => x) fun va a' U1 g₁ s₁ hne hg k L ra hQ hE => ?_
  exact wpAny_mono ((zF8 fs ho hes hlen env J _ X U1 s₁ A a' va (st.keep hg k L) ra).1 hne) hQ hE
 ·intro env J f X U s A st hne
  rw [zA8, R.bind_assoc] at hne ⊢
  show wpAny _ _ (do testChain pos (<- eval l env) ops (markedEach ops es (evalEach es env))) _ _ _
  rw [markedEach_of_false _ _ _ (jQ hes)]
  refine wpAny_bind ?_
  refine Sim.goQ (P' := fun b t _ _ => b = t) (hl env J f X U s A st) hne (fun _ _ x => x) (fun _ _ x => x) fun va a' U1 g₁ s₁ hne hg k L ra hQ hE => ?_
  exact wpAny_mono ((zF8 fs ho hes hlen env J _ X U1 s₁ A a' va (st.keep hg k L) ra).2 hne) hQ hE
theorem TOk.cmp1 {l r : Expr} {op : CmpOp} {c : CE} {pos : Pos} (hm : behindInMarks op r = false) (h : EOk S F q d H sc (.Compare l [op] [r] pos) c) : TOk S F q d H sc (.Compare l [op] [r] pos) c := fun env J f X U s A st hne => by
 rw [isTrue_Compare1, markedBehindIn_of_false hm]
 have he := h env J f X U s A st
 have hr : (evE F q c J U) ≠ .stuck := fun e => hne (by rw [e]; rfl)
 have key : wpAny (model S.prog S.w) A (eval (.Compare l [op] [r] pos) env >>= fun c => holding [c] (PySem.truthy c)) (QS S X [] f (fun b t _ _ => b = t) s ((evE F q c J U).bind fun v U => R.lift U (truthy U v))) (ES S X [] f false s ((evE F q c J U).bind fun v U => R.lift U (truthy U v))) s := by
  refine wpAny_bind ?_
  refine Sim.goQ (P' := fun b t _ _ => b = t) he hne (fun _ _ x => x) (fun _ _ x => x) fun va a' U1 g₁ s₁ hne hg k L ra hQ hE => ?_
  obtain ⟨x, hx⟩ := yf hne
  rw [hx] at hQ
  exact wpAny_holding (wpAny_mono (yY L hx ra) (fun c s' p => by obtain ⟨rfl, e⟩ := p; exact hQ c s' (.bool L e)) fun _ _ x => x)
 have e2 : eval (.Compare l [op] [r] pos) env = (do let a <- eval l env; let b <- holding [a] (markedBehindIn op r (eval r env)); standAt pos; operate [a, b] (compareOp op a b)) := rfl
 rw [e2, markedBehindIn_of_false hm] at key
 simpa only [bind_assoc] using key
theorem zKS {op : BoolOp} {pos : Pos} : ∀ {es : List Expr} {cs : List CE} {c : CE}, All2 (GOk S F q d H sc) es cs -> vI (op == .And) cs = some c ->
  EOk S F q d H sc (.BoolOp op es pos) c /\ TOk S F q d H sc (.BoolOp op es pos) c := by
 intro es cs c h
 induction h generalizing c with
 | nil => intro e; exact zB e
 | @cons x cx es cs hx hes ih =>
  intro e
  cases hes with
  | nil =>
   cases e
   refine ⟨fun env J f X U s A st hne => BoolOp_one (hx.eo env J f X U s A st hne), fun env J f X U s A st hne => ?_⟩
   have := hx.to env J f X U s A st hne
   cases op with
   | And => exact isTrue_and (wpAny_mono this (fun c s' q => by cases c with | true => exact isTrue_and_nil q | false => exact q) fun _ _ x => x)
   | Or => exact isTrue_or (wpAny_mono this (fun c s' q => by cases c with | false => exact isTrue_or_nil q | true => exact q) fun _ _ x => x)
  | @cons y cy es cs hy hes =>
   have e : (vI (op == .And) (cy :: cs)).map (fun r => if (op == .And) = true then CE.and cx r else .or cx r) = some c := e
   obtain ⟨r, e1, rfl⟩ := Option.map_eq_some_iff.mp e
   obtain ⟨ih1, ih2⟩ := ih e1
   cases op with
   | And =>
    constructor
    ·intro env J f X U s A st hne
     simp only [show (BoolOp.And == BoolOp.And) = true from rfl, if_true] at hne ⊢
     rw [zGp] at hne ⊢
     refine BoolOp_and ?_
     refine Sim.goQ (P' := PV S X) (hx.eo env J f X U s A st) hne (fun _ _ x => x) (fun _ _ x => x) fun va a' U1 g₁ s₁ hne hg k L ra hQ hE => ?_
     refine zCt L ra hne fun t s₂ ht e hne => ?_
     rw [ht] at hQ hE
     cases t with
     | true => exact wpAny_mono (ih1 env J _ X U1 s₂ A ((st.keep hg k L).moved e) hne) (fun v s3 q3 => hQ v s3 (.moved e q3)) fun v s3 q3 => hE v s3 (.moved e q3)
     | false => exact hQ _ _ (.leaf L e (e.vr ra))
    ·intro env J f X U s A st hne
     simp only [show (BoolOp.And == BoolOp.And) = true from rfl, if_true] at hne ⊢
     have key : ((evE F q (.and cx r) J U).bind fun v U => R.lift U (truthy U v)) = ((evE F q cx J U).bind fun v U => R.lift U (truthy U v)).bind fun t U => if t then (evE F q r J U).bind fun v U => R.lift U (truthy U v) else .ok false U := by
      rw [zGp, R.bind_assoc, R.bind_assoc]
      congr 1
      funext v U'
      rw [R.bind_assoc]
      cases ht : truthy U' v with
      | none => simp
      | some t => cases t <;> simp [ht]
     rw [key] at hne ⊢
     refine isTrue_and ?_
     refine Sim.goQ (P' := fun b t _ _ => b = t) (hx.to env J f X U s A st) hne (fun _ _ x => x) (fun _ _ x => x) fun va a' U1 g₁ s₁ hne hg k L ra hQ hE => ?_
     have ra : va = a' := ra
     subst ra
     cases va with
     | true => exact wpAny_mono (ih2 env J _ X U1 s₁ A (st.keep hg k L) hne) hQ hE
     | false => exact hQ _ _ (.bool L (.refl s₁))
   | Or =>
    constructor
    ·intro env J f X U s A st hne
     simp only [show (BoolOp.Or == BoolOp.And) = false from rfl, Bool.false_eq_true, if_false] at hne ⊢
     rw [zMI] at hne ⊢
     refine BoolOp_or ?_
     refine Sim.goQ (P' := PV S X) (hx.eo env J f X U s A st) hne (fun _ _ x => x) (fun _ _ x => x) fun va a' U1 g₁ s₁ hne hg k L ra hQ hE => ?_
     refine zCt L ra hne fun t s₂ ht e hne => ?_
     rw [ht] at hQ hE
     cases t with
     | false => exact wpAny_mono (ih1 env J _ X U1 s₂ A ((st.keep hg k L).moved e) hne) (fun v s3 q3 => hQ v s3 (.moved e q3)) fun v s3 q3 => hE v s3 (.moved e q3)
     | true => exact hQ _ _ (.leaf L e (e.vr ra))
    ·intro env J f X U s A st hne
     simp only [show (BoolOp.Or == BoolOp.And) = false from rfl, Bool.false_eq_true, if_false] at hne ⊢
     have key : ((evE F q (.or cx r) J U).bind fun v U => R.lift U (truthy U v)) = ((evE F q cx J U).bind fun v U => R.lift U (truthy U v)).bind fun t U => if t then .ok true U else (evE F q r J U).bind fun v U => R.lift U (truthy U v) := by
      rw [zMI, R.bind_assoc, R.bind_assoc]
      congr 1
      funext v U'
      rw [R.bind_assoc]
      cases ht : truthy U' v with
      | none => simp
      | some t => cases t <;> simp [ht]
     rw [key] at hne ⊢
     refine isTrue_or ?_
     refine Sim.goQ (P' := fun b t _ _ => b = t) (hx.to env J f X U s A st) hne (fun _ _ x => x) (fun _ _ x => x) fun va a' U1 g₁ s₁ hne hg k L ra hQ hE => ?_
     have ra : va = a' := ra
     subst ra
     cases va with
     | false => exact wpAny_mono (ih2 env J _ X U1 s₁ A (st.keep hg k L) hne) hQ hE
     | true => exact hQ _ _ (.bool L (.refl s₁))
end
end Mine
end

section
namespace Mine
open PySem PyProof.Rows
section
variable {S : zO} {C : Ctx} {T : Nat -> Option Fn} {F : Calls} {q : Bool} {d : Nat} {H : List Str} {sc : Scope}
variable {X : List Addr} {f : List Loc} {U : Sto} {s : Shared} {A : Around} {E : Value -> Shared -> Prop}
theorem LOk.of {es : List Expr} {cs : List CE} (h : All2 (GOk S F q d H sc) es cs) : LOk S F q d H sc es cs := by
 refine ⟨?_, ?_⟩
 ·induction h with
  | nil => rfl
  | cons hx _ ih => rw [List.any_cons, hx.star, ih]; rfl
 ·induction h with
  | nil =>
   intro env pos J f X U s A st _
   rw [zMr]
   exact wpAny_pure ⟨[], U, [], rfl, .nil s, .refl f [] s, by rw [List.append_nil]; exact st.lk, (by show VRs S X _ s.heap [] []; exact True.intro)⟩
  | @cons x c es cs hx _ ih =>
   intro env pos J f X U s A st hne
   rw [zBo] at hne ⊢
   rw [zx hx.star]
   show wpAny _ _ (spliced ((false, eval x env) :: backTo pos (starEach es env))) _ _ _
   refine Calls.spliced_cons ?_
   refine Sim.goQ (P' := fun vs xs f s => VRs S X f s.heap xs vs) (hx.eo env J f X U s A st) hne (fun _ _ x => x) (fun _ _ x => x) fun va a' U1 g₁ s₁ hne hg k L ra hQ hE => ?_
   refine Sim.goQ (P' := fun vs xs f s => VRs S X f s.heap xs vs) (ih env pos J _ X U1 s₁ A (st.keep hg k L)) hne hQ hE fun vs xs U2 g₂ s₂ hne hg₂ k₂ L₂ rs hQ hE => ?_
   refine hQ _ _ (QS.here L₂ ?_)
   show VRs S X _ s₂.heap (a' :: xs) (va :: vs)
   exact ⟨VR.keepK k₂ hg₂ (fun _ h => nomatch h) ra, rs⟩
theorem zGI : ∀ {cs : List CE} {J : List V} {U U' : Sto} {vs : List V}, evL F q cs J U = .ok vs U' -> vs.length = cs.length
 | [], J, U, U', vs, h => by rw [zMr] at h; cases h; rfl
 | c :: cs, J, U, U', vs, h => by
  rw [zBo] at h
  cases h1 : evE F q c J U with
  | ok v U1 =>
   rw [h1, R.bind_ok] at h
   cases h2 : evL F q cs J U1 with
   | ok ws U2 => rw [h2, R.bind_ok] at h; cases h; simp [zGI h2]
   | exc _ _ => rw [h2] at h; first | exact zB h | exact zF h | cases h
   | stuck => rw [h2] at h; first | exact zB h | exact zF h | cases h
  | exc _ _ => rw [h1] at h; first | exact zB h | exact zF h | cases h
  | stuck => rw [h1] at h; first | exact zB h | exact zF h | cases h
theorem All2.len {α β : Type} {P : α -> β -> Prop} {as : List α} {bs : List β} (h : All2 P as bs) : as.length = bs.length := by
 induction h with
 | nil => rfl
 | cons _ _ ih => simp [ih]
theorem LOk.go {es : List Expr} {cs : List CE} {env : Env} {pos : Pos} {J : List V} {rk : List V -> Sto -> R V} {W : List Value -> Shared -> Prop} {Q' E' : Value -> Shared -> Prop} (h : LOk S F q d H sc es cs) (st : St S q d H sc env J f X U s A) (hne : (evL F q cs J U).bind rk ≠ .stuck)
  (hQ : ∀ c s'', QN S X [] f s ((evL F q cs J U).bind rk) c s'' -> Q' c s'') (hE : ∀ e s'', ES S X [] f false s ((evL F q cs J U).bind rk) e s'' -> E' e s'')
  (hk : ∀ vs xs U' g s', xs.length = cs.length -> rk xs U' ≠ .stuck -> Fresh g s -> Kp f [] s s' -> Lk S X (f ++ g) U' s'.heap -> VRs S X (f ++ g) s'.heap xs vs -> (∀ c s'', QN S X [] (f ++ g) s' (rk xs U') c s'' -> Q' c s'') ->
   (∀ e s'', ES S X [] (f ++ g) false s' (rk xs U') e s'' -> E' e s'') -> W vs s') : wpAny (model S.prog S.w) A (spliced (backTo pos (starEach es env))) W E' s := by
 have hr : evL F q cs J U ≠ .stuck := fun e => hne (by rw [e]; rfl)
 refine wpAny_mono (h.2 env pos J f X U s A st hr) (fun a s' p => ?_) fun e s' p => hE e s' ?_
 ·obtain ⟨b, U', g, e, hg, k, L, p⟩ := p
  have hl := zGI e
  rw [e] at hne hQ hE
  exact hk a b U' g s' hl hne hg k L p (fun c s'' x => hQ c s'' (QN.lifts f g s s' _ c s'' hg k x)) fun e s'' x => hE e s'' (ES.lifts f g s s' _ e s'' hg k x)
 ·obtain ⟨c, U', g, ea, e1, e2, hg, k, L, x⟩ := p
  exact ⟨c, U', g, ea, e1, by rw [e2]; rfl, hg, k, L, x⟩
theorem zL4 {es : List Expr} {cs : List CE} {pos : Pos} (hl : es.length <= 1000) (h : All2 (GOk S F q d H sc) es cs) : NOk S F q d H sc (.List es pos) (.list cs) := fun env J f X U s A st hne => by
 rw [zK8] at hne ⊢
 refine wpAny_List ?_
 refine LOk.go (.of h) st hne (fun _ _ x => x) (fun _ _ x => x) fun vs xs U1 g s₁ hlen hne hg k L rs hQ hE => ?_
 have : xs.length <= 1000 := by rw [hlen, <- h.len]; exact hl
 have h2 : vs.length <= LIM := by rw [<- wC rs]; unfold LIM; omega
 refine ⟨Nat.le_trans h2 yM, hQ _ _ (PE.here L ?_)⟩
 exact zAI (tk := s₁.toks) L rs (by unfold LIM; omega)
theorem zKd {es : List Expr} {cs : List CE} {pos : Pos} {k : Nat} (hl : es.length <= 1000) (h : All2 (GOk S F q d H sc) es cs) : EOk S F q d H sc (.Tuple es k pos) (.tup cs) := fun env J f X U s A st hne => by
 rw [zMs] at hne ⊢
 refine wpAny_Tuple ?_
 refine LOk.go (.of h) st hne (fun _ _ x => x.qs) (fun _ _ x => x) fun vs xs U1 g s₁ hlen hne hg k L rs hQ hE => ?_
 have : xs.length <= 1000 := by rw [hlen, <- h.len]; exact hl
 have h2 : vs.length <= LIM := by rw [<- wC rs]; unfold LIM; omega
 refine ⟨Nat.le_trans h2 yM, hQ _ _ (PE.here L ?_)⟩
 exact zAJ (tk := s₁.toks) L rs (by unfold LIM; omega)
theorem zMB (slice : Expr) (o i : Value) : ∃ ops, subscripted slice false o i = operate ops (getItem o i) := by
 cases slice with
 | Slice l u st p => cases st <;> exact ⟨_, rfl⟩
 | _ => exact ⟨_, rfl⟩
theorem zBh {value slice : Expr} {o i : Value} {K id : String} {Q : Value -> Shared -> Prop} (hT : s.TypeIs o K)
  (hl : typeLookup (.type K) "__getitem__" = pure (some (.builtin id))) (h : wpAny (model S.prog S.w) A (getItem o i) Q E s) :
  wpAny (model S.prog S.w) A (subscriptTail value slice o i) Q E s := by
 obtain ⟨ops, hs⟩ := zMB slice o i
 unfold subscriptTail
 refine wpAny_bind ?_
 rw [getitemInPython_of_ne hT.not_modules]
 refine wpAny_bind (wpAny_specialOf hT hl ?_)
 have fin : wpAny (model S.prog S.w) A (subscripted slice false o i) (fun r s₃ => wpAny (model S.prog S.w) A (letTemporaryGo value o r >>= fun _ => pure r) Q E s₃) E s := by
  rw [hs]
  exact wpAny_operating (wpAny_mono h (fun r s₃ h₃ => wpAny_bind (wpAny_letTemporaryGo (wpAny_pure h₃))) fun _ _ x => x)
 first
  | exact wpAny_pure (wpAny_bind fin)
  | exact wpAny_bind (wpAny_pure (wpAny_bind fin))
  | exact wpAny_bind fin
theorem zFM (fs : zW S C T) {a b x : V} {va : Value} (L : Lk S X f U s.heap) (e : ev2 .index U a b = some x) (ra : VR S X f s.heap a va) :
  ∃ K id, s.TypeIs va K /\ typeLookup (.type K) "__getitem__" = pure (some (.builtin id)) := by
 have seq : ∀ {xs : List V}, yr U a = some xs -> ∃ K id, s.TypeIs va K /\ typeLookup (.type K) "__getitem__" = pure (some (.builtin id)) := by
  intro xs h1
  obtain ⟨p, vs, n, rfl, il | il, _⟩ := vJ L h1 ra
  ·exact ⟨"list", _, ⟨_, il, rfl⟩, slot_list_getitem.lookup⟩
  ·exact ⟨"tuple", _, ⟨_, il, rfl⟩, slot_tuple_getitem.lookup⟩
 cases a with
 | str y => obtain ⟨⟨t, rfl⟩, _⟩ := yq ra; exact ⟨"str", _, typeIs_str s y t, F.slot_str_getitem.lookup⟩
 | parts =>
  obtain ⟨hh, rfl⟩ := ra
  obtain ⟨d, g, e1, hd, hm, _⟩ := L.parts fs hh
  rw [e1]
  exact ⟨"dict", _, hm.typeIs, slot_dict_getitem.lookup⟩
 | tup xs => exact seq rfl
 | lst xs => exact seq rfl
 | ref n =>
  cases b with
  | int i =>
   delta ev2 at e; dsimp only at e
   split at e
   ·rename_i xs ho
    exact seq (xs := xs) (by show (match U[n]? with | some (.list xs) => some xs | _ => none) = some xs; rw [ho])
   ·rename_i es ho
    obtain ⟨l, hl, rfl⟩ := ra
    have := L.obj n l _ hl ho
    obtain ⟨p, dd⟩ := l
    cases dd with
    | none => obtain ⟨kvs, hd, _⟩ := this; exact ⟨"dict", _, hd.dictOf.typeIs, slot_dict_getitem.lookup⟩
    | some dd => exact this.elim
   ·first | exact zB e | exact zF e | cases e
  | _ => first | exact zB e | exact zF e | cases e
 | _ => cases b <;> cases e
theorem zKY (fs : zW S C T) {o i : Expr} {a b : CE} {pos : Pos} (ho : EOk S F q d H sc o a) (hi : EOk S F q d H sc i b) : EOk S F q d H sc (.Subscript o i pos) (.p2 .index a b) :=
 zMh (t := fun v w => subscriptTail o i v w) rfl ho hi (fun env A Q E s h => Subscript_ h) fun X f U s A E a b x va vb _ _ L hx ra rb => by
  obtain ⟨K, id, h1, h2⟩ := zFM fs L hx ra
  exact zBh h1 h2 (zEJ (L.parts fs) L hx ra rb)
noncomputable def PO (x : Value) (i : Option Int) (_ : List Loc) (_ : Shared) : Prop := IsPart x i
theorem zGa {e : Option Expr} {c : Option CE} (h : (e = none /\ c = none) \/ ∃ e' c', e = some e' /\ c = some c' /\ EOk S F q d H sc e' c') (env : Env) (J : List V) (st : St S q d H sc env J f X U s A) :
  Sim S A X [] f PO (evalPart e env) (evO F q c J U) s := fun hne => by
 rcases h with ⟨rfl, rfl⟩ | ⟨e', c', rfl, rfl, h⟩
 ·rw [evalPart_none, zMH]
  exact wpAny_pure (QS.here st.lk .none)
 ·rw [evalPart_some]
  rw [zDa] at hne ⊢
  refine Sim.goQ (P' := PO) (h env J f X U s A st) hne (fun _ _ x => x) (fun _ _ x => x) fun va a' U1 g₁ s₁ hne hg k L ra hQ hE => ?_
  cases a' with
  | int i => obtain ⟨t, rfl⟩ := zy ra; exact hQ _ _ (QS.here L (.int i t))
  | _ => exact absurd rfl hne
theorem zFk {o slice : Expr} {x a : V} {va vl vh : Value} {sl : Addr} {l' h' : Option Int} (L : Lk S X f U s.heap) (hx : wp U a l' h' = some x) (ra : VR S X f s.heap a va) (hs : s.heap.IsSliceOf sl vl vh .none) (rl : IsPart vl l') (rh : IsPart vh h') :
  wpAny (model S.prog S.w) A (subscriptTail o slice va (.ref sl)) (PE S X f s x) E s := by
 have seq : ∀ {xs : List V}, listOf? U a = some xs -> x = .lst (yR xs l' h') -> wpAny (model S.prog S.w) A (subscriptTail o slice va (.ref sl)) (PE S X f s x) E s := by
  intro xs h1 h2
  subst h2
  obtain ⟨p, vs, n, rfl, il, rs, hlen⟩ := yE L h1 ra
  exact zBh (K := "list") ⟨_, il, rfl⟩ slot_list_getitem.lookup (zAH L il rs hlen hs rl rh)
 cases a with
 | tup xs =>
  cases hx
  obtain ⟨p, vs, n, rfl, hp, il, rs, hlen⟩ := jI ra
  exact zBh (K := "tuple") ⟨_, il, rfl⟩ slot_tuple_getitem.lookup (jz L hp il rs hlen hs rl rh)
 | lst xs => cases hx; exact seq rfl rfl
 | ref n =>
  delta wp at hx; dsimp only at hx; simp only [Option.map_eq_some_iff] at hx
  obtain ⟨xs, h1, h2⟩ := hx
  exact seq h1 h2.symm
 | _ => first | exact zB hx | exact zF hx | cases hx
theorem zKa {o : Expr} {lo hi : Option Expr} {a : CE} {cl ch : Option CE} {p pos : Pos} (ho : EOk S F q d H sc o a) (hl : (lo = none /\ cl = none) \/ ∃ e' c', lo = some e' /\ cl = some c' /\ EOk S F q d H sc e' c')
  (hh : (hi = none /\ ch = none) \/ ∃ e' c', hi = some e' /\ ch = some c' /\ EOk S F q d H sc e' c') : NOk S F q d H sc (.Subscript o (.Slice lo hi none p) pos) (.slice a cl ch) := fun env J f X U s A st hne => by
 rw [zGx] at hne ⊢
 refine Subscript_ ?_
 refine Sim.goN (ho env J f X U s A st) hne (fun _ _ x => x) (fun _ _ x => x) fun va a' U1 g₁ s₁ hne hg k L ra hQ hE => ?_
 have st₁ := st.keep hg k L
 refine wpAny_Slice ?_
 refine Sim.goN (zGa hl env J st₁) hne hQ hE fun vl l' U2 g₂ s₂ hne hg₂ k₂ L₂ rl hQ hE => ?_
 have st₂ := st₁.keep hg₂ k₂ L₂
 have ra2 := VR.keepK k₂ hg₂ (fun _ h => nomatch h) ra
 refine Sim.goN (zGa hh env J st₂) hne hQ hE fun vh h' U3 g₃ s₃ hne hg₃ k₃ L₃ rh hQ hE => ?_
 have ra3 := VR.keepK k₃ hg₃ (fun _ h => nomatch h) ra2
 rw [evalPart_none]
 refine wpAny_pure ?_
 obtain ⟨x, hx⟩ := yf hne
 rw [hx] at hQ
 have ee := Ext.push s₃ { cls := .type "slice", data := .fields #[vl, vh, .none] }
 have L₄ := ee.lk L₃
 have ra4 := ee.vr ra3
 have hs := Heap.IsSliceOf.new s₃.heap vl vh .none
 exact wpAny_mono (zFk L₄ hx ra4 hs rl rh) (fun v s' p => hQ v s' (QN.moved ee (p.here L₄))) fun _ _ x => x
end
end Mine
end

section
namespace Mine
open PySem PyProof.Rows
theorem zR {β : Type} {x : Str} {y : β} : ∀ {l : List (Str × β)}, l.lookup x = some y -> (x, y) ∈ l
 | [], h => by simp at h
 | (a, b) :: r, h => by
  rw [List.lookup_cons] at h
  split at h
  ·rename_i e
   have := eq_of_beq e
   cases h; subst this
   exact List.mem_cons_self
  ·exact List.mem_cons_of_mem _ (zR h)
theorem zNF : bootBuiltins "len" = some (.builtin "len") := by kernel_rfl
theorem zNE : bootBuiltins "all" = some (.builtin "all") := by kernel_rfl
theorem zOx : bootBuiltins "ValueError" = some (.type "ValueError") := by kernel_rfl
theorem zJE : bootBuiltins "int" = some (.type "int") := by kernel_rfl
theorem zLQ : bootBuiltins "bool" = some (.type "bool") := by kernel_rfl
theorem zNI : bootBuiltins "str" = some (.type "str") := by kernel_rfl
theorem zF0 : bootBuiltins "list" = some (.type "list") := by kernel_rfl
theorem zDh : bootBuiltins "tuple" = some (.type "tuple") := by kernel_rfl
theorem zNJ : bootBuiltins "sum" = some (.builtin "sum") := by kernel_rfl
theorem zNH : bootBuiltins "min" = some (.builtin "min") := by kernel_rfl
theorem zNG : bootBuiltins "max" = some (.builtin "max") := by kernel_rfl
theorem zBr : bootBuiltins "isinstance" = some (.builtin "isinstance") := by kernel_rfl
theorem zJF : bootBuiltins "range" = some (.type "range") := by kernel_rfl
section
variable {S : zO} {C : Ctx} {T : Nat -> Option Fn} {F : Calls} {q : Bool} {d : Nat} {H : List Str} {sc : Scope}
variable {X : List Addr} {f : List Loc} {U : Sto} {s : Shared} {A : Around} {E : Value -> Shared -> Prop}
theorem xN (fs : zW S C T) {x : Str} {p : Pos} {v : Value} {env : Env} {J : List V} {Q : Value -> Shared -> Prop} (st : St S q d H sc env J f X U s A) (hg : isGlob sc x = true) (hn : C.fns.lookup x = none)
  (hx : x ∈ b1Names.map (·.1) \/ x ∈ b2Names.map (·.1) \/ x ∈ kindNames.map (·.1) \/ x = ("isinstance" : Str) \/ x = ("range" : Str)) (hv : bootBuiltins x = some v) (hd : (x == ("__debug__" : Str)) = false) (h : Q v s) : wpAny (model S.prog S.w) A (eval (.Name x p) env) Q E s := by
 obtain ⟨mg, mb, g1, g2, g3, g4, g5, _⟩ := fs.g
 obtain ⟨e1, e2⟩ := g5 x hx hn
 refine wpAny_Name ?_ hd
 exact jS st.fr.kind (st.fr.isGlob hg) (by rw [st.fr.glob]; exact st.lk.ns g1) e1 (by rw [st.fr.blt]; exact st.lk.ns g2) (e2.trans hv) h
theorem zBe {env : Env} {e : Expr} {pos : Pos} {Q : List Value -> Shared -> Prop} (hs : isStar e = false) (h : wpAny (model S.prog S.w) A (eval e env) (fun v s' => Q [v] s') E s) : wpAny (model S.prog S.w) A (spliced (backTo pos (starEach [e] env))) Q E s := by
 rw [zx hs]
 show wpAny _ _ (spliced ((false, eval e env) :: [])) _ _ _
 exact Calls.spliced_cons (wpAny_mono h (fun v s' q => wpAny_pure q) fun _ _ x => x)
theorem zEi {env : Env} {e e2 : Expr} {pos : Pos} {Q : List Value -> Shared -> Prop} (hs : isStar e = false) (hs2 : isStar e2 = false) (h : wpAny (model S.prog S.w) A (eval e env) (fun v s' => wpAny (model S.prog S.w) A (eval e2 env) (fun w s'' => Q [v, w] s'') E s') E s) :
  wpAny (model S.prog S.w) A (spliced (backTo pos (starEach [e, e2] env))) Q E s := by
 rw [zx hs, zx hs2]
 show wpAny _ _ (spliced ((false, eval e env) :: (false, eval e2 env) :: [])) _ _ _
 exact Calls.spliced_cons (wpAny_mono h (fun v s' q => Calls.spliced_cons (wpAny_mono q (fun w s'' q => wpAny_pure q) fun _ _ x => x)) fun _ _ x => x)
theorem yo {v : Value} (h : ∀ a, v ≠ .ref a) : zBA s v := .inl h
theorem wf (fs : zW S C T) {x : Str} {p pos : Pos} {v : Value} {e : Expr} {c : CE} {o : P1} (hg : isGlob sc x = true) (hn : C.fns.lookup x = none)
  (hx : x ∈ b1Names.map (·.1)) (hv : bootBuiltins x = some v) (hd : (x == ("__debug__" : Str)) = false) (hr : ∀ a, v ≠ .ref a) (h : GOk S F q d H sc e c)
  (op : ∀ (X : List Addr) (f : List Loc) (U : Sto) (s : Shared) (A : Around) (E : Value -> Shared -> Prop) (a x : V) (va : Value), (kg o && q) = false -> (q = false -> A.handled = none) -> Lk S X f U s.heap -> ev1 o U a = some x -> VR S X f s.heap a va -> wpAny (model S.prog S.w) A (call v [va]) (PE S X f s x) E s) :
  NOk S F q d H sc (.Call (.Name x p) [e] [] pos) (.p1 o c) := fun env J f X U s A st hne => by
 rw [zLA] at hne ⊢
 by_cases hq : (kg o && q) = true
 ·rw [if_pos hq] at hne; exact absurd rfl hne
 rw [if_neg hq] at hne ⊢
 refine wpAny_Call_NameR (xN fs st hg hn (.inl hx) hv hd ?_)
 refine yX (zl _ (by simp [h.star])) (zBe h.star ?_)
 refine Sim.goN (h.eo env J f X U s A st) hne (fun _ _ x => x) (fun _ _ x => x) fun va a' U1 g₁ s₁ hne hg k L ra hQ hE => ?_
 obtain ⟨x, hx⟩ := yf hne
 rw [hx] at hQ
 exact ⟨yo hr, wpAny_mono (op X _ U1 s₁ A _ a' x va (by simpa using hq) st.cx.hand L hx ra) (fun v s' p => hQ v s' (p.here L)) fun _ _ x => x⟩
theorem zGP {o : P1} (hl : kg o = true) (h1 : (kg o && q) = false) (h2 : q = false -> A.handled = none) : A.handled = none := h2 (by rw [hl, Bool.true_and] at h1; exact h1)
theorem zMf (fs : zW S C T) {x : Str} {p pos : Pos} {e : Expr} {c : CE} {o : P1} (hg : isGlob sc x = true) (hn : C.fns.lookup x = none) (ho : b1Names.lookup x = some o) (h : GOk S F q d H sc e c) :
  NOk S F q d H sc (.Call (.Name x p) [e] [] pos) (.p1 o c) := by
 have hm := zR ho
 have hm' : x ∈ b1Names.map (·.1) := List.mem_map_of_mem hm
 simp only [b1Names, List.mem_cons, Prod.mk.injEq, List.not_mem_nil, or_false] at hm
 rcases hm with ⟨rfl, rfl⟩ | hm
 ·exact wf fs hg hn hm' zNF (by decide) (by simp) h fun X f U s A E a x va _ _ L hx ra => zHS L hx ra
 rcases hm with ⟨rfl, rfl⟩ | hm
 ·exact wf fs hg hn hm' zJE (by decide) (by simp) h fun X f U s A E a x va _ _ L hx ra => zEo hx ra
 rcases hm with ⟨rfl, rfl⟩ | hm
 ·exact wf fs hg hn hm' zNE (by decide) (by simp) h fun X f U s A E a x va h1 h2 L hx ra => zG0 (zGP rfl h1 h2) L hx ra
 rcases hm with ⟨rfl, rfl⟩ | hm
 ·exact wf fs hg hn hm' zF0 (by decide) (by simp) h fun X f U s A E a x va _ _ L hx ra => zDW L hx ra
 rcases hm with ⟨rfl, rfl⟩ | hm
 ·exact wf fs hg hn hm' zDh (by decide) (by simp) h fun X f U s A E a x va _ _ L hx ra => zEq L hx ra
 obtain ⟨rfl, rfl⟩ := hm
 exact wf fs hg hn hm' zNJ (by decide) (by simp) h fun X f U s A E a x va h1 h2 L hx ra => zI3 (zGP rfl h1 h2) L hx ra
theorem zET (fs : zW S C T) {x : Str} {p pos : Pos} {v : Value} {e e2 : Expr} {c c2 : CE} {o : P2} (hg : isGlob sc x = true) (hn : C.fns.lookup x = none)
  (hx : x ∈ b2Names.map (·.1)) (hv : bootBuiltins x = some v) (hd : (x == ("__debug__" : Str)) = false) (hr : ∀ a, v ≠ .ref a) (s1 : isStar e = false) (s2 : isStar e2 = false) (h : EOk S F q d H sc e c) (h2 : EOk S F q d H sc e2 c2)
  (op : ∀ (X : List Addr) (f : List Loc) (U : Sto) (s : Shared) (A : Around) (E : Value -> Shared -> Prop) (a b x : V) (va vb : Value), (wb o && q) = false -> (q = false -> A.handled = none) -> Lk S X f U s.heap -> ev2 o U a b = some x -> VR S X f s.heap a va -> VR S X f s.heap b vb -> wpAny (model S.prog S.w) A (call v [va, vb]) (PE S X f s x) E s) :
  EOk S F q d H sc (.Call (.Name x p) [e, e2] [] pos) (.p2 o c c2) := fun env J f X U s A st hne => by
 rw [zI5] at hne ⊢
 by_cases hq : (wb o && q) = true
 ·rw [if_pos hq] at hne; exact absurd rfl hne
 rw [if_neg hq] at hne ⊢
 refine wpAny_Call_NameR (xN fs st hg hn (.inr (.inl hx)) hv hd ?_)
 refine yX (zl _ (by simp [s1, s2])) (zEi s1 s2 ?_)
 refine Sim.goN (h env J f X U s A st) hne (fun _ _ x => x.qs) (fun _ _ x => x) fun va a' U1 g₁ s₁ hne hg k L ra hQ hE => ?_
 refine Sim.goN (h2 env J _ X U1 s₁ A (st.keep hg k L)) hne hQ hE fun vb b' U2 g₂ s₂ hne hg₂ k₂ L₂ rb hQ hE => ?_
 obtain ⟨x, hx⟩ := yf hne
 rw [hx] at hQ
 exact ⟨yo hr, wpAny_mono (op X _ U2 s₂ A _ a' b' x va vb (by simpa using hq) st.cx.hand L₂ hx (VR.keepK k₂ hg₂ (fun _ h => nomatch h) ra) rb) (fun v s' p => hQ v s' (p.here L₂)) fun _ _ x => x⟩
theorem zPc (fs : zW S C T) {x : Str} {p pos : Pos} {e e2 : Expr} {c c2 : CE} {o : P2} (hg : isGlob sc x = true) (hn : C.fns.lookup x = none) (ho : b2Names.lookup x = some o) (s1 : isStar e = false) (s2 : isStar e2 = false) (h : EOk S F q d H sc e c) (h2 : EOk S F q d H sc e2 c2) :
  EOk S F q d H sc (.Call (.Name x p) [e, e2] [] pos) (.p2 o c c2) := by
 have hm := zR ho
 have hm' : x ∈ b2Names.map (·.1) := List.mem_map_of_mem hm
 simp only [b2Names, List.mem_cons, Prod.mk.injEq, List.not_mem_nil, or_false] at hm
 rcases hm with ⟨rfl, rfl⟩ | ⟨rfl, rfl⟩
 ·exact zET fs hg hn hm' zNH (by decide) (by simp) s1 s2 h h2 fun X f U s A E a b x va vb h1 h2 L hx ra rb => by
   have hh : A.handled = none := h2 h1
   obtain ⟨i, j, rfl, rfl⟩ := kK hx
   cases hx
   obtain ⟨t, rfl⟩ := zy ra
   obtain ⟨u, rfl⟩ := zy rb
   exact zFT hh
 ·exact zET fs hg hn hm' zNG (by decide) (by simp) s1 s2 h h2 fun X f U s A E a b x va vb h1 h2 L hx ra rb => by
   have hh : A.handled = none := h2 h1
   obtain ⟨i, j, rfl, rfl⟩ := kK hx
   cases hx
   obtain ⟨t, rfl⟩ := zy ra
   obtain ⟨u, rfl⟩ := zy rb
   exact zFS hh
theorem zIu (fs : zW S C T) {k : Str} {p pk pos : Pos} {e : Expr} {c : CE} {kd : Kd} (hg : isGlob sc "isinstance" = true) (hn : C.fns.lookup ("isinstance" : Str) = none) (hk : kindOf? C k = some kd) (hgk : isGlob sc k = true) (hs : isStar e = false) (h : EOk S F q d H sc e c) :
  EOk S F q d H sc (.Call (.Name ("isinstance" : Str) p) [e, .Name k pk] [] pos) (.p1 (.isInst kd) c) := fun env J f X U s A st hne => by
 rw [zLA, show kg (.isInst kd) = false from rfl, Bool.false_and, if_neg (by simp)] at hne ⊢
 unfold kindOf? at hk
 split at hk
 ·first | exact zB hk | exact zF hk | cases hk
 rename_i hnk
 have hnk : C.fns.lookup k = none := Option.not_isSome_iff_eq_none.mp hnk
 have hm := zR hk
 have hm' : k ∈ kindNames.map (·.1) := List.mem_map_of_mem hm
 have hv : bootBuiltins k = some (.type (zKx kd)) /\ (k == ("__debug__" : Str)) = false
   /\ ∀ c, kd = .exc c -> c = .ValueError := by
  simp only [kindNames, List.mem_cons, Prod.mk.injEq, List.not_mem_nil, or_false] at hm
  rcases hm with ⟨rfl, rfl⟩ | ⟨rfl, rfl⟩ | ⟨rfl, rfl⟩ | ⟨rfl, rfl⟩ | ⟨rfl, rfl⟩
   | ⟨rfl, rfl⟩
  ·exact ⟨zJE, by decide, by simp⟩
  ·exact ⟨zLQ, by decide, by simp⟩
  ·exact ⟨zNI, by decide, by simp⟩
  ·exact ⟨zF0, by decide, by simp⟩
  ·exact ⟨zDh, by decide, by simp⟩
  ·exact ⟨zOx, by decide, fun c h => by cases h; rfl⟩
 refine wpAny_Call_NameR (xN fs st hg hn (.inr (.inr (.inr (.inl rfl)))) zBr (by decide) ?_)
 refine yX (zl _ (by rw [List.any_cons, hs]; rfl)) (zEi hs rfl ?_)
 refine Sim.goN (h env J f X U s A st) hne (fun _ _ x => x.qs) (fun _ _ x => x) fun va a' U1 g₁ s₁ hne hg k L ra hQ hE => ?_
 refine xN fs (st.keep hg k L) hgk hnk (.inr (.inr (.inl hm'))) hv.1 hv.2.1 ?_
 obtain ⟨x, hx⟩ := yf hne
 rw [hx] at hQ
 exact ⟨yo (by simp), wpAny_mono (zDJ hv.2.2 L hx ra) (fun v s' p => hQ v s' (p.here L)) fun _ _ x => x⟩
theorem zL2 (fs : zW S C T) (FSs : FS S F q d) {x : Str} {n : Nat} {p pos : Pos} {es : List Expr} {cs : List CE} (hg : isGlob sc x = true) (hd : (x == ("__debug__" : Str)) = false) (hn : C.fns.lookup x = some n) (h : All2 (GOk S F q d H sc) es cs) :
  EOk S F q d H sc (.Call (.Name x p) es [] pos) (.call n cs) := fun env J f X U s A st hne => by
 rw [zK3] at hne ⊢
 have hr : evL F q cs J U ≠ .stuck := fun e => hne (by rw [e]; rfl)
 obtain ⟨mg, mb, g1, g2, g3, g4, _⟩ := fs.g
 refine wpAny_Call_NameR (wpAny_Name (wR st.fr.kind (st.fr.isGlob hg) (by rw [st.fr.glob]; exact st.lk.ns g1) (g4 x n hn) ?_) hd)
 have hl := LOk.of h
 refine yX (zl _ hl.1) ?_
 refine Sim.goQ (P' := PV S X) (hl.2 env pos J f X U s A st) hne (fun _ _ x => x) (fun _ _ x => x) fun vs xs U1 g₁ s₁ hne hg k L rs hQ hE => ?_
 obtain ⟨⟨o, fd, h1, h2⟩, h3⟩ := FSs n xs U1 _ X A s₁ vs (st.keep hg k L).cx.call L rs hne
 refine ⟨.inr ⟨_, o, fd, rfl, L.base _ _ h1, h2⟩, wpAny_call ?_⟩
 refine codeAny_mono h3 fun r s' hq => ?_
 match r, hq with
 | .ok (.ret v), hq => exact hQ v s' hq
 | .error e, hq => exact hE e s' hq
end
end Mine
end

section
namespace Mine
open PySem PyProof.Rows
section
variable {S : zO} {C : Ctx} {T : Nat -> Option Fn} {F : Calls} {q : Bool} {d : Nat} {H : List Str} {sc : Scope}
variable {X X' Y Z : List Addr} {f g : List Loc} {U : Sto} {s s' : Shared} {A : Around} {E : Value -> Shared -> Prop} {I a : Addr} {its : Items} {i : Nat}
structure Mv (I : Addr) (s s' : Shared) : Prop where
 rest : s' = { s with heap := s'.heap, toks := s'.toks }
 keep : ∀ b o, b ≠ I -> s.heap.get? b = some o -> s'.heap.get? b = some o
 live : ∃ o, s'.heap.get? I = some o
 dic : ∀ o es n, s.heap.get? I = some o -> o.data = .dict es n -> ∃ o' es' n', s'.heap.get? I = some o' /\ o'.data = .dict es' n'
theorem Mv.kp (m : Mv I s s') (hI : I ∈ Y) : Kp f Y s s' :=
 ⟨m.rest, fun a o e => (by
   by_cases h : a = I
   ·rw [h]; exact m.live
   ·exact ⟨o, m.keep a o h e⟩), fun a o e _ h => ⟨o, m.keep a o (fun q => h (q ▸ hI)) e, .refl o⟩,
  fun a o es n e d _ => (by
   by_cases h : a = I
   ·subst h; exact m.dic o es n e d
   ·exact ⟨o, es, n, m.keep a o h e, d⟩)⟩
theorem Mv.vr (m : Mv I s s') (hI : I ∈ X) {x : V} {v : Value} (r : VR S X f s.heap x v) : VR S X f s'.heap x v :=
 VR.keep (fun _ _ e => e) (fun a o h h1 h2 => ⟨⟨h1, h2⟩, o, m.keep a o (fun q => h2 (q ▸ hI)) h, .refl o⟩) x v r
theorem Mv.vrs (m : Mv I s s') (hI : I ∈ X) {x : List V} {v : List Value} (r : VRs S X f s.heap x v) : VRs S X f s'.heap x v :=
 VRs.keep (fun _ _ e => e) (fun a o h h1 h2 => ⟨⟨h1, h2⟩, o, m.keep a o (fun q => h2 (q ▸ hI)) h, .refl o⟩) x v r
theorem Mv.lk (m : Mv I s s') (hI : I ∈ X) (L : Lk S X f U s.heap) : Lk S X f U s'.heap where
 base b o h := m.keep b o (fun q => by rw [q, (L.hid I hI).1] at h; cases h) (L.base b o h)
 len := L.len
 nodup := L.nodup
 fresh := L.fresh
 hid a ha := ⟨(L.hid a ha).1, (L.hid a ha).2.1, (by
  by_cases h : a = I
  ·rw [h]; exact m.live
  ·obtain ⟨o, e⟩ := (L.hid a ha).2.2; exact ⟨o, m.keep a o h e⟩)⟩
 obj i l o hi ho := (L.obj i l o hi ho).keep (fun _ _ => m.vr hI) (fun _ _ => m.vrs hI) fun a ha => by
  obtain ⟨ob, h⟩ := L.live (zt hi ha)
  rw [h]; exact m.keep a ob (fun q => (L.hid I hI).2.1 (q ▸ zt hi ha)) h
theorem VR.drop {h h' : Heap} (hX : ∀ a ∈ X', a ∈ X) (hZ : ∀ a ∈ Z, a ∈ X) (k : ∀ b o, b ∉ Z -> h.get? b = some o -> h'.get? b = some o) {x : V} {v : Value} (r : VR S X f h x v) : VR S X' f h' x v :=
 VR.keep (fun _ _ e => e) (fun a o h h1 h2 => ⟨⟨h1, fun q => h2 (hX a q)⟩, o, k a o (fun q => h2 (hZ a q)) h, .refl o⟩) x v r
theorem VRs.drop {h h' : Heap} (hX : ∀ a ∈ X', a ∈ X) (hZ : ∀ a ∈ Z, a ∈ X) (k : ∀ b o, b ∉ Z -> h.get? b = some o -> h'.get? b = some o) {x : List V} {v : List Value} (r : VRs S X f h x v) : VRs S X' f h' x v :=
 VRs.keep (fun _ _ e => e) (fun a o h h1 h2 => ⟨⟨h1, fun q => h2 (hX a q)⟩, o, k a o (fun q => h2 (hZ a q)) h, .refl o⟩) x v r
theorem Lk.drop {h h' : Heap} (L : Lk S X f U h) (hX : ∀ a ∈ X', a ∈ X /\ a ∉ Z) (hZ : ∀ a ∈ Z, a ∈ X) (k : ∀ b o, b ∉ Z -> h.get? b = some o -> h'.get? b = some o) : Lk S X' f U h' where
 base b o q := k b o (fun z => by rw [(L.hid b (hZ b z)).1] at q; cases q) (L.base b o q)
 len := L.len
 nodup := L.nodup
 fresh := L.fresh
 hid a ha := ⟨(L.hid a (hX a ha).1).1, (L.hid a (hX a ha).1).2.1, let ⟨o, e⟩ := (L.hid a (hX a ha).1).2.2; ⟨o, k a o (hX a ha).2 e⟩⟩
 obj i l o hi ho := (L.obj i l o hi ho).keep (fun _ _ => VR.drop (fun a ha => (hX a ha).1) hZ k) (fun _ _ => VRs.drop (fun a ha => (hX a ha).1) hZ k) fun a ha => by
  obtain ⟨ob, h⟩ := L.live (zt hi ha)
  rw [h]; exact k a ob (fun z => (L.hid a (hZ a z)).2.1 (zt hi ha)) h
theorem Kp.ends {s₁ : Shared} (k : Kp f Y s s₁) (hr : s' = { s₁ with heap := s'.heap, toks := s'.toks }) (hk : ∀ b o, b ∉ Z -> s₁.heap.get? b = some o -> s'.heap.get? b = some o) (hZ : ∀ a ∈ Z, s.heap.get? a = none) : Kp f Y s s' where
 rest := by rw [hr, k.rest]
 live a o e := let ⟨o₁, e₁⟩ := k.live a o e; ⟨o₁, hk a o₁ (fun h => by rw [hZ a h] at e; cases e) e₁⟩
 kept a o e h1 h2 := by
  obtain ⟨o₁, e₁, q₁⟩ := k.kept a o e h1 h2
  exact ⟨o₁, hk a o₁ (fun h => by rw [hZ a h] at e; cases e) e₁, q₁⟩
 dicts a o es n e d h1 := by
  obtain ⟨o₁, es1, n₁, e₁, d₁⟩ := k.dicts a o es n e d h1
  exact ⟨o₁, es1, n₁, hk a o₁ (fun h => by rw [hZ a h] at e; cases e) e₁, d₁⟩
noncomputable def ItAt (S : zO) (X : List Addr) (f : List Loc) (h : Heap) (I : Addr) : Items -> Nat -> Prop
 | .now xs, i => (∃ ax items n, h.IsListIter I ax i /\ (ax ∉ addrs f /\ ax ∉ X) /\ IsL h ax items n /\ VRs S X f h xs items.toList) \/
   (∃ ax items n, h.IsTupleIter I ax i /\ (ax ∉ addrs f /\ ax ∉ X) /\ IsT h ax items n /\ VRs S X f h xs items.toList) \/
   (∃ lo hi : Int, xs = za lo hi /\ IsRangeIter h I (lo + i) (((hi - lo).toNat : Int) - i) 1) \/
   (∃ y t, xs = xp y /\ y.cps.all (· < 128) = true /\ h.IsStrIter I "str_ascii_iterator" y t i)
 | .live n, i => ∃ ax, f[n]? = some (ax, none) /\ h.IsListIter I ax i
 | .keys _ _, _ => False
theorem zFd {lo hi : Int} {x : V} (h : (za lo hi)[i]? = some x) : x = .int (lo + i) /\ i < (hi - lo).toNat := by
 simp only [za, List.getElem?_map, Option.map_eq_some_iff] at h
 obtain ⟨k, hk, rfl⟩ := h
 have := List.getElem?_range (n := (hi - lo).toNat) (i := i)
 by_cases hlt : i < (hi - lo).toNat
 ·rw [this hlt] at hk; cases hk; exact ⟨rfl, hlt⟩
 ·rw [List.getElem?_eq_none (by simp; omega)] at hk; first | exact zB hk | exact zF hk | cases hk
theorem zFc {lo hi : Int} (h : (za lo hi)[i]? = none) : (hi - lo).toNat <= i := by
 simp only [za, List.getElem?_map, Option.map_eq_none_iff] at h
 simpa using h
theorem kb {h h' : Heap} {ax : Addr} (x : h.IsListIter I ax i) (k : ∀ o, h.get? I = some o -> ∃ o', h'.get? I = some o' /\ SameObj o o') : h'.IsListIter I ax i := by
 obtain ⟨o, e, c, dt⟩ := x
 obtain ⟨o', e', q⟩ := k o e
 exact ⟨o', e', q.cls.trans c, q.data.trans dt⟩
theorem zDX {h h' : Heap} {ax : Addr} (x : h.IsTupleIter I ax i) (k : ∀ o, h.get? I = some o -> ∃ o', h'.get? I = some o' /\ SameObj o o') : h'.IsTupleIter I ax i := by
 obtain ⟨o, e, c, dt⟩ := x
 obtain ⟨o', e', q⟩ := k o e
 exact ⟨o', e', q.cls.trans c, q.data.trans dt⟩
theorem zDV {h h' : Heap} {c : String} {y : Str} {t : Tok} (x : h.IsStrIter I c y t i) (k : ∀ o, h.get? I = some o -> ∃ o', h'.get? I = some o' /\ SameObj o o') : h'.IsStrIter I c y t i := by
 obtain ⟨o, e, c, dt⟩ := x
 obtain ⟨o', e', q⟩ := k o e
 exact ⟨o', e', q.cls.trans c, q.data.trans dt⟩
theorem zDr {y : Str} {x : V} (h : (xp y)[i]? = some x) : ∃ c, y.cps[i]? = some c /\ x = .str ⟨#[c]⟩ := by
 unfold xp zz at h
 rw [List.getElem?_map] at h
 cases e : y.cps.toList[i]? with
 | none => rw [e] at h; first | exact zB h | exact zF h | cases h
 | some c => rw [e] at h; cases h; exact ⟨c, by rw [<- Array.getElem?_toList]; exact e, rfl⟩
theorem zDq {y : Str} (h : (xp y)[i]? = none) : y.cps[i]? = none := by
 unfold xp zz at h
 rw [List.getElem?_map] at h
 cases e : y.cps.toList[i]? with
 | none => rw [<- Array.getElem?_toList]; exact e
 | some c => rw [e] at h; first | exact zB h | exact zF h | cases h
theorem ItAt.keep {h h' : Heap} {f' : List Loc} (kf : ∀ (i : Nat) (l : Loc), f[i]? = some l -> f'[i]? = some l)
  (kh : ∀ a o, h.get? a = some o -> a ∉ addrs f -> a ∉ X -> (a ∉ addrs f' /\ a ∉ X') /\ ∃ o', h'.get? a = some o' /\ SameObj o o')
  (kI : ∀ o, h.get? I = some o -> ∃ o', h'.get? I = some o' /\ SameObj o o') (x : ItAt S X f h I its i) : ItAt S X' f' h' I its i := by
 cases its with
 | now xs =>
  rcases x with ⟨ax, items, n, h1, h2, h3, h4⟩ | ⟨ax, items, n, h1, h2, h3, h4⟩ | ⟨lo, hi, h1, h2⟩ | ⟨y, t, h1, h2, h3⟩
  ·obtain ⟨q1, o', q2, q3⟩ := kh ax _ h3 h2.1 h2.2
   exact .inl ⟨ax, items, n, kb h1 kI, q1, q2.trans (congrArg some (q3.exact fun _ _ q => by cases q)), VRs.keep kf kh _ _ h4⟩
  ·obtain ⟨q1, o', q2, q3⟩ := kh ax _ h3 h2.1 h2.2
   exact .inr (.inl ⟨ax, items, n, zDX h1 kI, q1, q2.trans (congrArg some (q3.exact fun _ _ q => by cases q)), VRs.keep kf kh _ _ h4⟩)
  ·obtain ⟨o', q2, q3⟩ := kI _ h2
   exact .inr (.inr (.inl ⟨lo, hi, h1, q2.trans (congrArg some (q3.exact fun _ _ q => by cases q))⟩))
  ·exact .inr (.inr (.inr ⟨y, t, h1, h2, zDV h3 kI⟩))
 | live n =>
  obtain ⟨ax, h1, h2⟩ := x
  exact ⟨ax, kf _ _ h1, kb h2 kI⟩
 | keys _ _ => exact x.elim
theorem ItAt.keepK (k : Kp f [] s s') (hg : Fresh g s) (hI : I ∈ X) (hXf : ∀ a ∈ X, a ∉ addrs f) (x : ItAt S X f s.heap I its i) : ItAt S X (f ++ g) s'.heap I its i :=
 ItAt.keep (f := f) (f' := f ++ g) (X := X) (X' := X) (h := s.heap) (fun _ _ e => List.getElem?_append_left (List.getElem?_eq_some_iff.mp e).1 ▸ e)
  (fun a o ho h1 h2 => ⟨⟨fun h => (mem_addrs_append.mp h).elim h1 (yH hg ho), h2⟩, k.kept a o ho h1 fun h => nomatch h⟩) (fun o ho => k.kept I o ho (hXf I hI) fun h => nomatch h) x
theorem ItAt.mv (m : Mv a s s') (ha : a ∈ X) (hne : I ≠ a) (x : ItAt S X f s.heap I its i) : ItAt S X f s'.heap I its i :=
 ItAt.keep (fun _ _ e => e) (fun b o ho h1 h2 => ⟨⟨h1, h2⟩, o, m.keep b o (fun q => h2 (q ▸ ha)) ho, .refl o⟩) (fun o ho => ⟨o, m.keep I o hne ho, .refl o⟩) x
theorem ItAt.hideNew (e : Ext s s') (hn : s.heap.get? a = none) (x : ItAt S X f s.heap I its i) : ItAt S (a :: X) f s'.heap I its i :=
 ItAt.keep (fun _ _ e => e) (fun b ob q h1 h2 => ⟨⟨h1, fun h => (List.mem_cons.mp h).elim (fun h => by subst h; rw [hn] at q; cases q) h2⟩, ob, e.keep b ob q, .refl ob⟩) (fun o ho => ⟨o, e.keep I o ho, .refl o⟩) x
theorem jU {h' : Heap} {t : Nat} {o : Obj} (hs : Heap.SameBut I s.heap h') (hl : h'.get? I = some o) (hd : ∀ o es n, s.heap.get? I = some o -> o.data ≠ .dict es n) : Mv I s { s with heap := h', toks := t } :=
 ⟨rfl, fun b o hb e => (hs.2 b hb).trans e, ⟨o, hl⟩, fun o es n e d => absurd d (hd o es n e)⟩
inductive zMx (S : zO) (X : List Addr) (f : List Loc) (I : Addr) (its : Items) (i : Nat) (x : V) (s : Shared) (r : Option Value) (s' : Shared) : Prop
 | mk (v : Value) (e : r = some v) (m : Mv I s s') (it : ItAt S X f s'.heap I its (i + 1)) (rv : VR S X f s'.heap x v)
theorem zCB {x : V} (hI : I ∈ X) (L : Lk S X f U s.heap) (it : ItAt S X f s.heap I its i) (hn : yA U its i = some (some x)) :
  wpAny (model S.prog S.w) A (pyNext (.ref I)) (zMx S X f I its i x s) E s := by
 cases its with
 | now xs =>
  have hx : xs[i]? = some x := by simpa [yA] using hn
  rcases it with ⟨ax, items, n, h1, h2, h3, h4⟩ | ⟨ax, items, n, h1, h2, h3, h4⟩ | ⟨lo, hi, rfl, h2⟩ | ⟨y, t, rfl, h2, h3⟩
  ·obtain ⟨v, hv, rv⟩ := kL h4 hx
   refine wpAny_pyNext_list_item h1 (IsL.isList h3) (by simpa using hv) fun h' hit' hs' => ?_
   obtain ⟨o1, e1, _, d1⟩ := id h1
   obtain ⟨o2, e2, _⟩ := id hit'
   have m : Mv I s { s with heap := h' } := jU (t := s.toks) hs' e2 fun o es n e d => by rw [e1] at e; cases e; rw [d1] at d; cases d
   have hne : ax ≠ I := fun q => h2.2 (q ▸ hI)
   exact ⟨v, rfl, m, .inl ⟨ax, items, n, hit', h2, m.keep ax _ hne h3, m.vrs hI h4⟩, m.vr hI rv⟩
  ·obtain ⟨v, hv, rv⟩ := kL h4 hx
   refine wpAny_pyNext_tuple_item h1 ⟨_, h3, rfl, n, rfl⟩ (by simpa using hv) fun h' hit' hs' => ?_
   obtain ⟨o1, e1, _, d1⟩ := id h1
   obtain ⟨o2, e2, _⟩ := id hit'
   have m : Mv I s { s with heap := h' } := jU (t := s.toks) hs' e2 fun o es n e d => by rw [e1] at e; cases e; rw [d1] at d; cases d
   have hne : ax ≠ I := fun q => h2.2 (q ▸ hI)
   exact ⟨v, rfl, m, .inr (.inl ⟨ax, items, n, hit', h2, m.keep ax _ hne h3, m.vrs hI h4⟩), m.vr hI rv⟩
  ·obtain ⟨rfl, hlt⟩ := zFd hx
   refine wpAny_pyNext_range_item h2 (by omega) fun h' hit' hs' => ?_
   have m : Mv I s { s with heap := h', toks := s.toks + 1 } := jU hs' hit' fun o es n e d => by rw [h2] at e; cases e; cases d
   refine ⟨_, rfl, m, .inr (.inr (.inl ⟨lo, hi, rfl, ?_⟩)), ⟨_, rfl⟩⟩
   have e1 : lo + ((i + 1 : Nat) : Int) = lo + i + 1 := by omega
   have e2 : (((hi - lo).toNat : Int) - ((i + 1 : Nat) : Int)) = ((hi - lo).toNat : Int) - i - 1 := by omega
   rw [e1, e2]; exact hit'
  ·obtain ⟨c, hc, rfl⟩ := zDr hx
   refine wpAny_pyNext_ascii_item h3 hc fun h' hit' hs' => ?_
   obtain ⟨o1, e1, _, d1⟩ := id h3
   obtain ⟨o2, e2, _⟩ := id hit'
   have m : Mv I s { s with heap := h', toks := s.toks + 1 } := jU hs' e2 fun o es n e d => by rw [e1] at e; cases e; rw [d1] at d; cases d
   have hlt : c < 128 := by
    have := (Array.all_eq_true'.mp h2) c (Array.mem_of_getElem? hc)
    simpa using this
   refine ⟨_, rfl, m, .inr (.inr (.inr ⟨y, t, rfl, h2, hit'⟩)), ?_⟩
   refine ⟨⟨_, rfl⟩, by show 1 <= LIM; decide, ?_⟩
   show (#[c] : Array Nat).all (· < 0x110000) = true
   simp; omega
 | live n =>
  obtain ⟨ax, h1, h2⟩ := it
  delta yA at hn; dsimp only at hn
  split at hn
  ·rename_i xs ho
   have hx : xs[i]? = some x := by simpa using hn
   obtain ⟨vs, k, il, rs, hl⟩ := L.obj n (ax, none) _ h1 ho
   obtain ⟨v, hv, rv⟩ := kL rs hx
   refine wpAny_pyNext_list_item h2 (IsL.isList il) (by simpa using hv) fun h' hit' hs' => ?_
   obtain ⟨o1, e1, _, d1⟩ := id h2
   obtain ⟨o2, e2, _⟩ := id hit'
   have m : Mv I s { s with heap := h' } := jU (t := s.toks) hs' e2 fun o es n e d => by rw [e1] at e; cases e; rw [d1] at d; cases d
   exact ⟨v, rfl, m, ⟨ax, h1, hit'⟩, m.vr hI rv⟩
  ·first | exact zB hn | exact zF hn | cases hn
 | keys _ _ => exact it.elim
theorem zES (hh : A.handled = none) (L : Lk S X f U s.heap) (it : ItAt S X f s.heap I its i) (hn : yA U its i = some none) :
  wpAny (model S.prog S.w) A (pyNext (.ref I)) (fun r s' => r = none /\ s' = { s with heap := s'.heap, toks := s'.toks } /\ ∀ b o, b ≠ I -> s.heap.get? b = some o -> s'.heap.get? b = some o) E s := by
 cases its with
 | now xs =>
  have hx : xs[i]? = none := by simpa [yA] using hn
  rcases it with ⟨ax, items, n, h1, h2, h3, h4⟩ | ⟨ax, items, n, h1, h2, h3, h4⟩ | ⟨lo, hi, rfl, h2⟩ | ⟨y, t, rfl, h2, h3⟩
  ·have : items[i]? = none := by
    have z := zY h4
    rw [List.getElem?_eq_none_iff] at hx
    exact Array.getElem?_eq_none_iff.mpr (by omega)
   exact wpAny_pyNext_list_end hh h1 (IsL.isList h3) this fun h' he => ⟨rfl, rfl, he⟩
  ·have : items[i]? = none := by
    have z := zY h4
    rw [List.getElem?_eq_none_iff] at hx
    exact Array.getElem?_eq_none_iff.mpr (by omega)
   exact wpAny_pyNext_tuple_end hh h1 ⟨_, h3, rfl, n, rfl⟩ this fun h' he => ⟨rfl, rfl, he⟩
  ·have := zFc hx
   exact wpAny_pyNext_range_end hh h2 (by omega) fun h' he => ⟨rfl, rfl, he⟩
  ·exact wpAny_pyNext_ascii_end hh h3 (zDq hx) fun h' he => ⟨rfl, rfl, he⟩
 | live n =>
  obtain ⟨ax, h1, h2⟩ := it
  delta yA at hn; dsimp only at hn
  split at hn
  ·rename_i xs ho
   have hx : xs[i]? = none := by simpa using hn
   obtain ⟨vs, k, il, rs, hl⟩ := L.obj n (ax, none) _ h1 ho
   have : vs[i]? = none := by
    have z := zY rs
    rw [List.getElem?_eq_none_iff] at hx
    exact Array.getElem?_eq_none_iff.mpr (by omega)
   exact wpAny_pyNext_list_end hh h2 (IsL.isList il) this fun h' he => ⟨rfl, rfl, he⟩
  ·first | exact zB hn | exact zF hn | cases hn
 | keys _ _ => exact it.elim
end
end Mine
end

section
namespace Mine
open PySem PyProof.Rows
inductive QI (S : zO) (X : List Addr) (f : List Loc) (s : Shared) (r : R Items) (it : Value) (s' : Shared) : Prop where
 | mk (its : Items) (U' : Sto) (g : List Loc) (I : Addr) (e1 : r = .ok its U') (e2 : it = .ref I) (hI : s.heap.get? I = none) (hX : I ∉ X) (hg : Fresh g s) (k : Kp f [] s s') (L : Lk S (I :: X) (f ++ g) U' s'.heap) (x : ItAt S (I :: X) (f ++ g) s'.heap I its 0)
section
variable {S : zO} {C : Ctx} {T : Nat -> Option Fn} {F : Calls} {q : Bool} {d : Nat} {H : List Str} {sc : Scope}
variable {X X' Y Z : List Addr} {f g : List Loc} {U : Sto} {s s' : Shared} {A : Around} {E : Value -> Shared -> Prop} {I a : Addr} {its : Items} {i : Nat}
theorem QI.lifts : zBt [] (fun f s r a s' => QI S X f s r a s') := fun f g s s₁ r c s' hg k q => by
 obtain ⟨its, U', g', I, e1, e2, e3, e4, hg', k', L, x⟩ := q
 rw [List.append_assoc] at L x
 exact ⟨its, U', g ++ g', I, e1, e2, zw k.live e3, e4, hg.trans k.live hg', k.trans hg k', L, x⟩
theorem QI.made {o : Obj} {t : Nat} (L : Lk S X f U s.heap) (x : ItAt S (s.heap.objs.size :: X) f (s.heap.push o) s.heap.objs.size its 0) (hl : (s.heap.push o).get? s.heap.objs.size = some o) :
  QI S X f s (.ok its U) (.ref s.heap.objs.size) { s with heap := s.heap.push o, toks := t } := by
 have ex : Ext s { s with heap := s.heap.push o, toks := t } := .heap fun _ _ e => Heap.get?_push_of_some _ e
 refine ⟨its, U, [], s.heap.objs.size, rfl, rfl, yb _, (L.new (yb _)).2, .nil s, ex.kp f [], ?_, ?_⟩
 ·rw [List.append_nil]; exact L.hideNew ex (yb _) hl
 ·rw [List.append_nil]; exact x
theorem QI.moved {r : R Items} {v : Value} {s₁ : Shared} (e : Ext s s₁) (h : QI S X f s₁ r v s') : QI S X f s r v s' :=
 QI.lifts f [] s s₁ r v s' (.nil s) (e.kp f []) (by rwa [List.append_nil])
theorem zEu {o : Obj} {xs : List V} {vs : List Value} (r : VRs S X f s.heap xs vs) : VRs S (s.heap.objs.size :: X) f (s.heap.push o) xs vs :=
 VRs.hideNew (s' := { s with heap := s.heap.push o }) (Ext.push s o) (yb _) r
theorem zFO {v : V} {w : Value} (L : Lk S X f U s.heap) (hi : zT U .val [v] = some its) (r : VR S X f s.heap v w) : wpAny (model S.prog S.w) A (pyIter w) (QI S X f s (.ok its U)) E s := by
 cases v with
 | tup xs =>
  cases hi
  obtain ⟨p, vs, n, rfl, hp, il, rs, hlen⟩ := jI r
  refine wpAny_pyIter_tuple ⟨_, il, rfl, n, rfl⟩ (QI.made (t := s.toks) L (.inr (.inl ⟨p, vs, n, ⟨_, Heap.get?_push_size _ rfl, rfl, rfl⟩, ⟨hp.1, ?_⟩, Heap.get?_push_of_some _ il, zEu rs⟩)) (Heap.get?_push_size _ rfl))
  exact fun h => (List.mem_cons.mp h).elim (fun h => by have := yb s.heap; rw [<- h, il] at this; cases this) hp.2
 | lst xs =>
  cases hi
  obtain ⟨p, vs, n, rfl, hp, il, rs, hlen⟩ := r
  refine wpAny_pyIter_list (IsL.isList il) (QI.made (t := s.toks) L (.inl ⟨p, vs, n, ⟨_, Heap.get?_push_size _ rfl, rfl, rfl⟩, ⟨hp.1, ?_⟩, Heap.get?_push_of_some _ il, zEu rs⟩) (Heap.get?_push_size _ rfl))
  exact fun h => (List.mem_cons.mp h).elim (fun h => by have := yb s.heap; rw [<- h, il] at this; cases this) hp.2
 | ref n =>
  have hi : jv n U[n]? = some its := hi
  unfold jv at hi
  split at hi
  ·rename_i xs ho
   cases hi
   obtain ⟨l, hl, rfl⟩ := r
   have := L.obj n l _ hl ho
   obtain ⟨p, dd⟩ := l
   cases dd with
   | none =>
    obtain ⟨vs, k, il, rs, hlen⟩ := this
    exact wpAny_pyIter_list (IsL.isList il) (QI.made (t := s.toks) L ⟨p, hl, ⟨_, Heap.get?_push_size _ rfl, rfl, rfl⟩⟩ (Heap.get?_push_size _ rfl))
   | some dd => exact this.elim
  ·first | exact zB hi | exact zF hi | cases hi
 | str y =>
  obtain ⟨⟨t, rfl⟩, _⟩ := yq r
  have hi : (if y.cps.all (· < 128) = true then some (Items.now (xp y)) else none) = some its := hi
  split at hi
  ·rename_i ha
   cases hi
   exact wpAny_pyIter_ascii ha (QI.made (t := s.toks) L (.inr (.inr (.inr ⟨y, t, rfl, ha, ⟨_, Heap.get?_push_size _ rfl, rfl, rfl⟩⟩))) (Heap.get?_push_size _ rfl))
  ·first | exact zB hi | exact zF hi | cases hi
 | _ => first | exact zB hi | exact zF hi | cases hi
noncomputable def zAj (S : zO) (F : Calls) (q : Bool) (d : Nat) (H : List Str) (sc : Scope) (e : Expr) (k : SK) (cs : List CE) : Prop := (∀ env x, foldedSetIterable e env x = pure x) /\
 ∀ (env : Env) (J : List V) (f : List Loc) (X : List Addr) (U : Sto) (s : Shared) (A : Around), St S q d H sc env J f X U s A ->
  ((evL F q cs J U).bind fun vs U => R.lift U (zT U k vs)) ≠ .stuck ->
  wpAny (model S.prog S.w) A (eval e env) (fun x s₁ => wpAny (model S.prog S.w) A (pyIter x) (QI S X f s ((evL F q cs J U).bind fun vs U => R.lift U (zT U k vs))) (ES S X [] f false s ((evL F q cs J U).bind fun vs U => R.lift U (zT U k vs))) s₁)
   (ES S X [] f false s ((evL F q cs J U).bind fun vs U => R.lift U (zT U k vs))) s
theorem zMA {e : Expr} {c : CE} (h : GOk S F q d H sc e c) : zAj S F q d H sc e .val [c] := by
 refine ⟨h.fold, fun env J f X U s A st hne => ?_⟩
 have key : ((evL F q [c] J U).bind fun vs U => R.lift U (zT U .val vs)) = (evE F q c J U).bind fun v U => R.lift U (zT U .val [v]) := by
  rw [zBo, R.bind_assoc]
  congr 1
 rw [key] at hne ⊢
 refine Sim.go (K := fun f s r a s' => QI S X f s r a s') QI.lifts (h.eo env J f X U s A st) hne (fun _ _ x => x) (fun _ _ x => x) fun va a' U1 g₁ s₁ hne hg k L ra hQ hE => ?_
 obtain ⟨its, hi⟩ := yf hne
 rw [hi] at hQ
 exact wpAny_mono (zFO L hi ra) hQ fun _ _ x => x
theorem zKl {lo : Int} (h0 : 0 <= lo) (h1 : lo <= LIM) : -(2 ^ 62) <= lo /\ lo < 2 ^ 62 := ⟨Int.le_trans (by decide) h0, Int.lt_of_le_of_lt h1 (by decide)⟩
theorem zKk {hi : Int} (h2 : hi.natAbs <= LIM) : -(2 ^ 62) <= hi /\ hi < 2 ^ 62 := by have hL : LIM = 1048576 := rfl; omega
theorem zFe {lo hi : Int} {t u v : Tok} (L : Lk S X f U s.heap) (h0 : 0 <= lo) (h1 : lo <= LIM) (h2 : hi.natAbs <= LIM) :
  wpAny (model S.prog S.w) A (pyIter (.ref s.heap.objs.size)) (QI S X f s (.ok (.now (za lo hi)) U)) E { s with heap := s.heap.push { cls := .type "range", data := .fields #[.int lo t, .int hi u, .int 1 v] }, toks := s.toks } := by
 have hL : LIM = 1048576 := rfl
 have ex : Ext s { s with heap := s.heap.push { cls := .type "range", data := .fields #[.int lo t, .int hi u, .int 1 v] }, toks := s.toks } := .heap fun _ _ e => Heap.get?_push_of_some _ e
 refine wpAny_pyIter_range (IsRange.new ..) (small_one (zKl h0 h1).1 (zKl h0 h1).2 (zKk h2).1 (zKk h2).2) (QI.moved ex (QI.made (t := s.toks) (ex.lk L) (.inr (.inr (.inl ⟨lo, hi, rfl, ?_⟩))) (Heap.get?_push_size _ rfl)))
 have e1 : Builtin.Range.rangeSize lo hi 1 = ((hi - lo).toNat : Int) - ((0 : Nat) : Int) := by rw [rangeSize_one]; split <;> omega
 have e2 : lo + ((0 : Nat) : Int) = lo := by simp
 show IsRangeIter _ _ (lo + ((0 : Nat) : Int)) _ 1
 rw [<- e1, e2]
 exact Heap.get?_push_size _ rfl
theorem zI2 (fs : zW S C T) {p pos : Pos} {es : List Expr} {cs : List CE} {k : SK} (hg : isGlob sc "range" = true) (hn : C.fns.lookup ("range" : Str) = none) (h : All2 (GOk S F q d H sc) es cs)
  (hk : (k = .range1 /\ cs.length = 1) \/ False) : zAj S F q d H sc (.Call (.Name ("range" : Str) p) es [] pos) k cs := by
 refine ⟨fun _ _ => rfl, fun env J f X U s A st hne => ?_⟩
 have hl := LOk.of h
 refine wpAny_Call_NameR (xN fs st hg hn (.inr (.inr (.inr (.inr rfl)))) zJF (by decide) ?_)
 refine yX (zl _ hl.1) ?_
 refine Sim.go (K := fun f s r a s' => QI S X f s r a s') QI.lifts (hl.2 env pos J f X U s A st) hne (fun _ _ x => x) (fun _ _ x => x) fun vs xs U1 g₁ s₁ hne hg k L rs hQ hE => ?_
 refine ⟨yo (by simp), ?_⟩
 obtain ⟨its, hi⟩ := yf hne
 rw [hi] at hQ
 have hL : LIM = 1048576 := rfl
 rcases hk with ⟨rfl, _⟩ | hk
 ·obtain ⟨n, rfl⟩ : ∃ n, xs = [.int n] := by
   rcases xs with _ | ⟨x, _ | ⟨y, _ | ⟨z, r⟩⟩⟩
   ·first | exact zB hi | exact zF hi | cases hi
   ·cases x <;> first | exact ⟨_, rfl⟩ | cases hi
   ·first | exact zB hi | exact zF hi | cases hi
   ·first | exact zB hi | exact zF hi | cases hi
  match vs, rs with
  | [w], rs =>
   obtain ⟨t, rfl⟩ := zy rs.1
   have hi : (if n.natAbs <= LIM then some (Items.now (za 0 n)) else none) = some its := hi
   split at hi
   ·rename_i hb
    cases hi
    refine call_range_1 ?_
    have ex : Ext s₁ { s₁ with toks := s₁.toks + 1 + 1 } := .toks s₁ _
    exact wpAny_mono (zFe (s := { s₁ with toks := s₁.toks + 1 + 1 }) L (by omega) (by omega) hb) (fun v s'' x => hQ v s'' (QI.moved ex x)) fun _ _ x => x
   ·first | exact zB hi | exact zF hi | cases hi
  | [], rs => exact False.elim rs
  | _ :: _ :: _, rs => exact False.elim rs.2
 ·exact hk.elim
end
end Mine
end

section
namespace Mine
open PySem PyProof.Rows
section
variable {S : zO} {C : Ctx} {T : Nat -> Option Fn} {F : Calls} {q : Bool} {d : Nat} {H : List Str} {sc : Scope}
variable {X X' Y Z : List Addr} {f g : List Loc} {U : Sto} {s s' : Shared} {A : Around} {E : Value -> Shared -> Prop} {I a : Addr} {its : Items} {i : Nat} {env : Env} {J : List V}
theorem zE2 {l : Addr} {items : Array Value} {n : Nat} {x : Value} {Q : Value -> Shared -> Prop} (hl : IsL s.heap l items n) (h : Q .none { s with heap := s.heap.update l (Obj.mapSeq (·.push x)) }) (hsz : items.size <= sizeLine) :
  wpAny (model S.prog S.w) A (call (.builtin "list.append") [.ref l, x]) Q E s := by
 refine wpAny_call_entry slot_list_append (IsL.isList hl).typeIs entry_list_append ?_ (args_list_append _ _)
 show wpAny _ _ (updateSeq l (·.push x) >>= fun _ => ret .none) _ _ s
 refine wpAny_bind ?_
 have hz' : (items.push x).size <= sizeLine + 1 := by rw [Array.size_push]; omega
 exact wpAny_updateSeq hl rfl (wpAny_pure ⟨.none, rfl, h⟩) (hz := hsz) (_hz' := hz')
theorem IsL.appended {h : Heap} {l : Addr} {items : Array Value} {n : Nat} {x : Value} (hl : IsL h l items n) : ∃ n', IsL (h.update l (Obj.mapSeq (·.push x))) l (items.push x) n' := ⟨_, IsL.update hl _⟩
theorem kw : ∀ (names : List (Str × NameKind)) (cs : List (Str × Addr)), (∀ n, (n, NameKind.free) ∈ names -> ∃ c, env.cells.lookup n = some c) -> (∀ y c, cs.lookup y = some c -> env.cells.lookup y = some c) ->
  ∃ cl, (forIn names cs (fun x r => do
    let __x <- pure PUnit.unit
    match x with
    | (name, kind) => if (kind == .free) = true then do let y <- cellOf env name; pure (ForInStep.yield ((name, y) :: r)) else pure (ForInStep.yield r)) : Sem (List (Str × Addr))) = pure cl /\ (∀ y c, cl.lookup y = some c -> env.cells.lookup y = some c) /\
   (∀ y, (cs.lookup y).isSome = true -> (cl.lookup y).isSome = true) /\ ∀ y, (y, NameKind.free) ∈ names -> (cl.lookup y).isSome = true
 | [], cs, _, h2 => ⟨cs, rfl, h2, fun _ h => h, fun _ h => nomatch h⟩
 | (n, k) :: r, cs, h1, h2 => by
  have h1' : ∀ n, (n, NameKind.free) ∈ r -> ∃ c, env.cells.lookup n = some c := fun n hn => h1 n (List.mem_cons_of_mem _ hn)
  by_cases hk : k = .free
  ·subst hk
   obtain ⟨c, hc⟩ := h1 n List.mem_cons_self
   obtain ⟨cl, e1, e2, e3, e4⟩ := kw r ((n, c) :: cs) h1' (fun y c' e => by
    rw [List.lookup_cons] at e
    split at e
    ·rename_i hy; rw [eq_of_beq hy]; cases e; exact hc
    ·exact h2 y c' e)
   refine ⟨cl, ?_, e2, fun y hy => e3 y ?_, fun y hy => ?_⟩
   ·rw [List.forIn_cons]
    simp only [cellOf, hc]
    exact e1
   ·rw [List.lookup_cons]; split
    ·rfl
    ·exact hy
   ·rcases List.mem_cons.mp hy with e | hy
    ·cases e; exact e3 n (by simp)
    ·exact e4 y hy
  ·obtain ⟨cl, e1, e2, e3, e4⟩ := kw r cs h1' h2
   refine ⟨cl, ?_, e2, e3, fun y hy => ?_⟩
   ·rw [List.forIn_cons]
    have : (k == NameKind.free) = false := by simpa using hk
    simp only [this]
    exact e1
   ·rcases List.mem_cons.mp hy with e | hy
    ·cases e; exact absurd rfl hk
    ·exact e4 y hy
theorem zE6 {scope : Scope} (h : ∀ n, (n, NameKind.free) ∈ scope.names -> ∃ c, env.cells.lookup n = some c) : ∃ cl, closureFor scope env = pure cl /\ ∀ y, (y, NameKind.free) ∈ scope.names -> ∃ c, cl.lookup y = some c /\ env.cells.lookup y = some c := by
 obtain ⟨cl, e1, e2, _, e4⟩ := kw (env := env) scope.names [] h (fun y c e => by simp at e)
 refine ⟨cl, ?_, fun y hy => ?_⟩
 ·simp only [closureFor]
  have := e1
  simp only [pure_bind, bind_pure] at this ⊢
  exact this
 ·obtain ⟨c, hc⟩ := Option.isSome_iff_exists.mp (e4 y hy)
  exact ⟨c, hc, e2 y c hc⟩
end
end Mine
end

section
namespace Mine
open PySem PyProof.Rows
theorem kD {env : Env} {scope : Scope} (x : Str) : (relabel scope env).names.lookup x = scope.names.lookup x \/ (scope.names.lookup x = some .free /\ (relabel scope env).names.lookup x = some .cell) := by
 show (scope.names.map fun (n, k) => if (k == NameKind.free && env.scope.kind == .function && env.kindOf n == some .cell) then (n, NameKind.cell) else (n, k)).lookup x = _ \/ (_ /\ (scope.names.map fun (n, k) => if (k == NameKind.free && env.scope.kind == .function && env.kindOf n == some .cell) then (n, NameKind.cell) else (n, k)).lookup x = some .cell)
 generalize scope.names = names
 induction names with
 | nil => exact .inl rfl
 | cons p r ih =>
  obtain ⟨n, k⟩ := p
  simp only [List.map_cons]
  by_cases hc : (k == NameKind.free && env.scope.kind == .function && env.kindOf n == some .cell) = true
  ·rw [if_pos hc]
   rw [List.lookup_cons, List.lookup_cons]
   have hk : k = .free := by simp only [Bool.and_eq_true] at hc; exact eq_of_beq hc.1.1
   split
   ·exact .inr ⟨by rw [hk], rfl⟩
   ·exact ih
  ·rw [if_neg hc]
   rw [List.lookup_cons, List.lookup_cons]
   split
   ·exact .inl rfl
   ·exact ih
section
variable {S : zO} {C : Ctx} {T : Nat -> Option Fn} {F : Calls} {q : Bool} {d : Nat} {H : List Str} {sc : Scope}
variable {X X' Y Z : List Addr} {f g : List Loc} {U : Sto} {s s' : Shared} {A : Around} {E : Value -> Shared -> Prop} {I a : Addr} {its : Items} {i : Nat} {env : Env} {J : List V}
theorem vK (x y : Str) : ∀ (H : List Str), zr y (H ++ [x]) = if x == y then some H.length else zr y H
 | [] => by simp [zr]
 | z :: H => by
  simp only [List.cons_append, zr, vK x y H]
  by_cases h : (x == y) = true
  ·simp [h]
  ·simp [h]
theorem wr {y : Str} : ∀ {H : List Str} {i : Nat}, zr y H = some i -> i < H.length
 | [], i, h => by simp [zr] at h
 | z :: H, i, h => by
  simp only [zr] at h
  split at h
  ·rename_i j hj; cases h; have := wr hj; simp; omega
  ·split at h
   ·cases h; simp
   ·first | exact zB h | exact zF h | cases h
theorem vL {y : Str} : ∀ {H : List Str} {i : Nat}, zr y H = some i -> y ∈ H
 | [], i, h => by simp [zr] at h
 | z :: H, i, h => by
  simp only [zr] at h
  split at h
  ·rename_i j hj; exact List.mem_cons_of_mem _ (vL hj)
  ·split at h
   ·rename_i e; rw [eq_of_beq e]; exact List.mem_cons_self
   ·first | exact zB h | exact zF h | cases h
structure vF (H : List Str) (sc scope : Scope) (x : Str) : Prop where
 kind : scope.kind = .function
 self : scope.names.lookup x = some .local
 cell : ∀ p ∈ scope.names, p.2 ≠ .cell
 loc : ∀ p ∈ scope.names, p.2 = .local -> (p.1 = x \/ p.1 ∉ H) /\ scope.names.lookup p.1 = some .local
 free : ∀ p ∈ scope.names, p.2 = .free -> sc.names.lookup p.1 = some .cell \/ sc.names.lookup p.1 = some .free
theorem zHC {scope : Scope} {x : Str} (h : zE7 H sc scope x = true) : vF H sc scope x := by
 unfold zE7 at h
 simp only [Bool.and_eq_true, List.all_eq_true, Bool.not_eq_true'] at h
 obtain ⟨⟨⟨⟨h1, h2⟩, h3⟩, h4⟩, h5⟩ := h
 refine ⟨eq_of_beq h1, eq_of_beq h2, fun p hp e => ?_, fun p hp e => ?_, fun p hp e => ?_⟩
 ·have := h5 p hp
  rw [e] at this; cases this
 ·have := h5 p hp
  rw [e] at this
  simp only [Bool.and_eq_true, Bool.or_eq_true] at this
  refine ⟨this.1.elim (fun q => .inl (eq_of_beq q)) fun q => .inr ?_, eq_of_beq this.2⟩
  rw [eq_of_beq q]
  intro hm
  rw [List.contains_iff_mem.mpr hm] at h3
  cases h3
 ·have := h5 p hp
  rw [e] at this
  simp only [Bool.or_eq_true] at this
  exact this.elim (fun q => .inl (eq_of_beq q)) fun q => .inr (eq_of_beq q)
theorem FR.cellKind {h : Heap} (fr : FR S X f h env H sc J) {y : Str} (hy : sc.names.lookup y = some .cell \/ sc.names.lookup y = some .free) : yG (env.kindOf y) := by
 rcases fr.names y with e | ⟨_, e⟩
 ·rw [e]; exact hy
 ·exact .inl e
theorem FR.comp {h : Heap} {scope : Scope} {x : Str} {cl : List (Str × Addr)} {D : Addr} {m : Str -> Option Value} {v : V} {w : Value} (fr : FR S X f h env H sc J) (ok : vF H sc scope x)
  (hcl : ∀ y, (y, NameKind.free) ∈ scope.names -> ∃ c, cl.lookup y = some c /\ env.cells.lookup y = some c) (hD : D ∈ X) (hn : h.Ns D m) (hm : m x = some w) (r : VR S X f h v w) :
  FR S X f h (compEnvC scope cl D env) (H ++ [x]) scope (J ++ [v]) := by
 have names : ∀ y, (compEnvC scope cl D env).kindOf y = scope.names.lookup y \/ (scope.names.lookup y = some .free /\ (compEnvC scope cl D env).kindOf y = some .cell) := fun y => kD y
 have freeOf : ∀ y, yG ((compEnvC scope cl D env).kindOf y) -> (y, NameKind.free) ∈ scope.names := fun y hy => by
  rcases names y with e | ⟨e, _⟩
  ·rw [e] at hy
   rcases hy with e' | e'
   ·exact absurd rfl (ok.cell _ (zR e'))
   ·exact zR e'
  ·exact zR e
 refine ⟨ok.kind, fr.glob, fr.blt, names, ⟨hD, m, hn⟩, fun y hy => ?_, fun y i v' hv hi hv' hne => ?_, by simp [fr.len]⟩
 ·obtain ⟨c, e1, e2⟩ := hcl y (freeOf y hy)
  obtain ⟨c', o, e3, e4, e5⟩ := fr.cells y (fr.cellKind (ok.free _ (freeOf y hy) rfl))
  rw [e2] at e3; cases e3
  exact ⟨c, o, e1, e4, e5⟩
 ·rw [vK] at hi
  by_cases hxy : (x == y) = true
  ·rw [if_pos hxy] at hi
   cases hi
   have e := eq_of_beq hxy
   subst e
   rw [<- fr.len, List.getElem?_append_right (Nat.le_refl _)] at hv'
   simp at hv'
   subst hv'
   refine ⟨w, .inl ⟨?_, m, hn, hm⟩, r⟩
   rcases names x with e | ⟨e, _⟩
   ·exact e.trans ok.self
   ·rw [ok.self] at e; cases e
  ·rw [if_neg hxy] at hi
   have hlt := wr hi
   rw [List.getElem?_append_left (by rw [fr.len]; exact hlt)] at hv'
   have hfree : (y, NameKind.free) ∈ scope.names := by
    unfold zAn at hv
    split at hv
    ·rename_i e
     rcases (ok.loc _ (zR e) rfl).1 with e' | e'
     ·exact absurd (by rw [show x = y from e'.symm]; simp) hxy
     ·exact absurd (vL hi) e'
    ·rename_i e; exact absurd rfl (ok.cell _ (zR e))
    ·rename_i e; exact zR e
    ·first | exact zB hv | exact zF hv | cases hv
   have hsc := ok.free _ hfree rfl
   have hv2 : zAn sc y = true := by
    unfold zAn
    rcases hsc with e | e <;> simp only at e <;> rw [e]
   obtain ⟨w', n, r'⟩ := fr.vals y i v' hv2 hi hv' hne
   obtain ⟨c, e1, e2⟩ := hcl y hfree
   refine ⟨w', .inr ⟨?_, c, e1, ?_⟩, r'⟩
   ·rcases names y with e | ⟨_, e⟩
    ·rw [e]
     unfold zAn at hv
     split at hv
     ·rename_i e'
      rcases (ok.loc _ (zR e') rfl).1 with e'' | e''
      ·exact absurd (by rw [show x = y from e''.symm]; simp) hxy
      ·exact absurd (vL hi) e''
     ·rename_i e'; exact .inl e'
     ·rename_i e'; exact .inr e'
     ·first | exact zB hv | exact zF hv | cases hv
    ·exact .inl e
   ·rcases n with ⟨k1, _⟩ | ⟨_, c', e3, e4⟩
    ·have := fr.cellKind hsc
     rw [k1] at this
     rcases this with h | h <;> cases h
    ·rw [e2] at e3; cases e3; exact e4
theorem FR.keepY (fr : FR S X f s.heap env H sc J) (hXf : ∀ a ∈ X, a ∉ addrs f) (k : Kp f Y s s') (hg : Fresh g s) (hYX : ∀ a ∈ Y, a ∈ X) (hl : env.locals ∉ Y) (hc : ∀ x c, yG (env.kindOf x) -> env.cells.lookup x = some c -> c ∉ Y) : FR S X (f ++ g) s'.heap env H sc J := by
 have hcf : ∀ x c, env.cells.lookup x = some c -> yG (env.kindOf x) -> c ∉ addrs f := fun x c e hk => by
  obtain ⟨c', o, e', hX, _⟩ := fr.cells x hk
  rw [e] at e'; cases e'
  exact hXf c hX
 refine ⟨fr.kind, fr.glob, fr.blt, fr.names, ⟨fr.loc.1, let ⟨m, h⟩ := fr.loc.2; ⟨m, zEO k (hXf _ fr.loc.1) hl h⟩⟩, fun x hx => ?_, fun x i v h1 h2 h3 h4 => ?_, fr.len⟩
 ·obtain ⟨c, o, e, hX, h⟩ := fr.cells x hx
  exact ⟨c, o, e, hX, zDL k (hcf x c e hx) (hc x c hx e) h⟩
 ·obtain ⟨w, h5, h6⟩ := fr.vals x i v h1 h2 h3 h4
  exact ⟨w, h5.keep k ⟨hXf _ fr.loc.1, hl⟩ fun x c e hk => ⟨hcf x c e hk, hc x c hk e⟩, h6.keepK k hg hYX⟩
inductive QC {α β : Type} (S : zO) (X Y : List Addr) (f : List Loc) (P : α -> β -> List Loc -> Shared -> Prop) (s : Shared) (b : β) (U' : Sto) (a : α) (s' : Shared) : Prop
 | mk (g : List Loc) (hg : Fresh g s) (k : Kp f Y s s') (L : Lk S X (f ++ g) U' s'.heap) (p : P a b (f ++ g) s')
inductive zPx {α β γ : Type} (S : zO) (A : Around) (X Y : List Addr) (f : List Loc) (P : α -> β -> List Loc -> Shared -> Prop) (t : Sem α) (r : R β) (rk : β -> Sto -> R γ) (s : Shared) : Prop
 | mk (b : β) (U' : Sto) (e : r = .ok b U') (ek : r.calm.bind rk = rk b U') (hne : rk b U' ≠ .stuck) (w : ∀ E, wpAny (model S.prog S.w) A t (QC S X Y f P s b U') E s)
theorem Sim.calm {α β γ : Type} {P : α -> β -> List Loc -> Shared -> Prop} {t : Sem α} {r : R β} {rk : β -> Sto -> R γ} (h : Sim S A X Y f P t r s) (hne : r.calm.bind rk ≠ .stuck) :
  zPx S A X Y f P t r rk s := by
 cases r with
 | ok b U' =>
  refine ⟨b, U', rfl, rfl, hne, fun E => wpAny_mono (h (by simp)) (fun a s' q => ?_) fun e s' q => ?_⟩
  ·obtain ⟨b', U'', g, e, hg, k, L, p⟩ := q
   cases e
   exact ⟨g, hg, k, L, p⟩
  ·obtain ⟨_, _, _, _, _, e, _⟩ := q; cases e
 | exc _ _ => exact absurd rfl hne
 | stuck => exact absurd rfl hne
end
end Mine
end

section
namespace Mine
open PySem PyProof.Rows
section
variable {S : zO} {C : Ctx} {T : Nat -> Option Fn} {F : Calls} {q : Bool} {d : Nat} {H : List Str} {sc : Scope}
variable {X X' Y Z : List Addr} {f g : List Loc} {U : Sto} {s s' : Shared} {A : Around} {E : Value -> Shared -> Prop} {I a : Addr} {its : Items} {i : Nat} {env : Env} {J : List V}
theorem FR.later (fr : FR S X f s.heap env H sc J) (L : Lk S X f U s.heap) (k : Kp f [] s s') (hg : Fresh g s) (hX' : ∀ a ∈ X', a ∈ X \/ s.heap.get? a = none) (hXX : ∀ a ∈ X, a ∈ X') : FR S X' (f ++ g) s'.heap env H sc J := by
 have fr' : FR S X' f s.heap env H sc J := ⟨fr.kind, fr.glob, fr.blt, fr.names, ⟨hXX _ fr.loc.1, fr.loc.2⟩, fun x hx => (by obtain ⟨c, o, e, hX, h⟩ := fr.cells x hx; exact ⟨c, o, e, hXX c hX, h⟩),
  fun x i v h1 h2 h3 h4 => (by obtain ⟨w, h5, h6⟩ := fr.vals x i v h1 h2 h3 h4; exact ⟨w, h5, h6.more hX'⟩), fr.len⟩
 exact fr'.keepY (fun a ha => (hX' a ha).elim (fun h => (L.hid a h).2.1) fun h => (L.new h).1) k hg (fun a h => nomatch h) (fun h => nomatch h) fun _ _ _ _ h => nomatch h
theorem zHP {Q : Value -> Shared -> Prop} (x : ItAt S X f s.heap I its i) (h : Q (.ref I) s) : wpAny (model S.prog S.w) A (pyIter (.ref I)) Q E s := by
 cases its with
 | now xs =>
  rcases x with ⟨ax, items, n, h1, h2, h3, h4⟩ | ⟨ax, items, n, h1, h2, h3, h4⟩ | ⟨lo, hi, rfl, h2⟩ | ⟨y, t, rfl, h2, h3⟩
  ·exact wpAny_pyIter_listiter h1 h
  ·exact wpAny_pyIter_tupleiter h1 h
  ·exact wpAny_pyIter_rangeiter h2 h
  ·exact wpAny_pyIter_striter_ascii h3 h
 | live n => obtain ⟨ax, h1, h2⟩ := x; exact wpAny_pyIter_listiter h2 h
 | keys _ _ => exact x.elim
theorem Kp.mv {s₁ : Shared} (k : Kp f Y s s₁) (m : Mv a s₁ s') (hn : s.heap.get? a = none) : Kp f Y s s' :=
 k.ends (Z := [a]) m.rest (fun b o hb e => m.keep b o (fun q => hb (q ▸ List.mem_singleton.mpr rfl)) e) fun b hb => List.mem_singleton.mp hb ▸ hn
noncomputable def yK (F : Calls) (q : Bool) (elt : CE) (cond : Option CE) (J : List V) (x : V) (acc : List V) (U : Sto) : R (List V) :=
 (evC F q cond (J ++ [x]) U).calm.bind fun t U => if t then (evE F q elt (J ++ [x]) U).calmE.bind fun y U => (if acc.length < LIM then .ok (acc ++ [y]) U else .stuck) else .ok acc U
structure zM0 (S : zO) (s : Shared) (X : List Addr) (f : List Loc) (N D I : Addr) (its : Items) (i : Nat) (acc : List V) (U' : Sto) (g : List Loc) (m : Str -> Option Value) (ys : Array Value) (n : Nat) (s' : Shared) : Prop where
 fresh : Fresh g s
 kp : Kp f [] s s'
 lk : Lk S (N :: D :: I :: X) (f ++ g) U' s'.heap
 it : ItAt S (N :: D :: I :: X) (f ++ g) s'.heap I its i
 ns : s'.heap.Ns N m
 il : IsL s'.heap D ys n
 vs : VRs S (N :: D :: I :: X) (f ++ g) s'.heap acc ys.toList
 len : acc.length <= LIM
theorem zP1 {N D I : Addr} {X : List Addr} {P : Addr -> Prop} (hN : P N) (hD : P D) (hI : P I) (h : ∀ a ∈ X, P a) : ∀ a ∈ N :: D :: I :: X, P a
 | _, .head _ => hN
 | _, .tail _ (.head _) => hD
 | _, .tail _ (.tail _ (.head _)) => hI
 | a, .tail _ (.tail _ (.tail _ m)) => h a m
theorem zOu {N D : Addr} {X : List Addr} {P : Addr -> Prop} (hN : P N) (hD : P D) (h : ∀ a ∈ X, P a) : ∀ a ∈ N :: D :: X, P a
 | _, .head _ => hN
 | _, .tail _ (.head _) => hD
 | a, .tail _ (.tail _ m) => h a m
inductive zMJ (S : zO) (s : Shared) (X : List Addr) (f : List Loc) (N D I : Addr) (its : Items) (g : V -> List V -> Sto -> R (List V)) (total : R (List V)) (k : Nat) (s' : Shared) : Prop
 | mk (i : Nat) (acc : List V) (U' : Sto) (l : List Loc) (m : Str -> Option Value) (ys : Array Value) (n : Nat) (hf : yw its g k i acc U' = total) (t : zM0 S s X f N D I its i acc U' l m ys n s') : zMJ S s X f N D I its g total k s'
theorem zHD {scope : Scope} {x : Str} {px pos : Pos} {elt iter : Expr} {ifs : List Expr} {ce : CE} {cond : Option CE} {cl : List (Str × Addr)} {N D : Addr} {R' : Result -> Shared -> Prop} {s₄ : Shared}
  (st : St S q d H sc env J f X U s A) (hh : A.handled = none) (ok : vF H sc scope x) (hcl : ∀ y, (y, NameKind.free) ∈ scope.names -> ∃ c, cl.lookup y = some c /\ env.cells.lookup y = some c)
  (hcond : (ifs = [] /\ cond = none) \/ ∃ e c, ifs = [e] /\ cond = some c /\ TOk S F q d (H ++ [x]) scope e c) (helt : EOk S F q d (H ++ [x]) scope elt ce)
  (hN : s.heap.get? N = none) (hD : s.heap.get? D = none) (hI : s.heap.get? I = none) (hND : N ≠ D) (hNI : N ≠ I) (hDI : D ≠ I)
  {total : R (List V)} (hne : total ≠ .stuck) {fuel : Nat} {acc0 : List V} {U0 : Sto} (h0 : yw its (yK F q ce cond J) fuel 0 acc0 U0 = total) {g₀ : List Loc} {m0 : Str -> Option Value} {ys0 : Array Value} {n0 : Nat} (t0 : zM0 S s X f N D I its 0 acc0 U0 g₀ m0 ys0 n0 s₄)
  (hR : ∀ acc U' g m ys n s', total = .ok acc U' -> Fresh g s -> Kp f [] s s' -> Lk S (N :: D :: X) (f ++ g) U' s'.heap -> s'.heap.Ns N m -> IsL s'.heap D ys n -> VRs S (N :: D :: X) (f ++ g) s'.heap acc ys.toList -> acc.length <= LIM -> R' (.ok .next) s')
  : codeAny (model S.prog S.w) A (.compLoop (.ListComp elt [⟨.Name x px, iter, ifs, 0⟩] scope pos) 0 (.ref I) (.ref D) (compEnvC scope cl N env)) R' s₄ := by
 refine codeAny_compLoop_tests (zMJ S s X f N D I its (yK F q ce cond J) total) ?_ fuel (.mk 0 acc0 U0 g₀ m0 ys0 n0 h0 t0)
 rintro k s' ⟨i, acc, U', g, m, ys, n, hf, t⟩
 cases k with
 | zero => rw [zEB] at hf; exact absurd hf.symm hne
 | succ k =>
 rw [zEA] at hf
 have hIX : I ∈ N :: D :: I :: X := .tail _ (.tail _ (.head _))
 have hNX : N ∈ N :: D :: I :: X := .head _
 have hDX : D ∈ N :: D :: I :: X := .tail _ (.head _)
 cases hnx : yA U' its i with
 | none => rw [hnx] at hf; exact absurd hf.symm hne
 | some o =>
 rw [hnx] at hf
 cases o with
 | none =>
  refine wpAny_mono (zES hh t.lk t.it hnx) (fun r s₁ h₁ => ?_) fun _ _ x => x
  obtain ⟨rfl, hr, hk⟩ := h₁
  have hk' : ∀ b o, b ∉ [I] -> s'.heap.get? b = some o -> s₁.heap.get? b = some o := fun b o hb e => hk b o (fun q => hb (q ▸ List.mem_singleton.mpr rfl)) e
  obtain ⟨on, es, ep, e1, e2⟩ := t.ns
  have hXd : ∀ a ∈ N :: D :: X, a ∈ N :: D :: I :: X := zOu hNX hDX fun a ha => .tail _ (.tail _ (.tail _ ha))
  have hIn : ∀ a ∈ N :: D :: X, a ∉ [I] := zOu (fun h => hNI (List.mem_singleton.mp h)) (fun h => hDI (List.mem_singleton.mp h)) fun a ha h => (List.mem_singleton.mp h ▸ st.lk.hid a ha).2.2.elim fun o e => nomatch hI.symm.trans e
  have hf : R.ok acc U' = total := hf
  refine hR acc U' g m ys n s₁ hf.symm t.fresh (t.kp.ends (Z := [I]) hr hk' fun b hb => List.mem_singleton.mp hb ▸ hI) (t.lk.drop (Z := [I]) (fun a ha => ⟨hXd a ha, hIn a ha⟩) (fun a ha => List.mem_singleton.mp ha ▸ hIX) hk') ⟨on, es, ep, hk N on hNI e1, e2⟩ (hk D _ hDI t.il) (VRs.drop (Z := [I]) hXd (fun a ha => List.mem_singleton.mp ha ▸ hIX) hk' t.vs) t.len
 | some x' =>
 have hf : (yK F q ce cond J x' acc U').bind (fun b U => yw its (yK F q ce cond J) k (i + 1) b U) = total := hf
 refine wpAny_mono (zCB hIX t.lk t.it hnx) (fun r s₁ h₁ => ?_) fun _ _ x => x
 obtain ⟨v, rfl, m1, it1, rv⟩ := h₁
 obtain ⟨on, es, ep, e1, e2⟩ := t.ns
 have ns1 : s₁.heap.Ns N m := ⟨on, es, ep, m1.keep N on hNI e1, e2⟩
 have hxk : (compEnvC scope cl N env).kindOf x = some .local := by
  rcases kD (env := env) (scope := scope) x with e | ⟨e, _⟩
  ·exact e.trans ok.self
  ·rw [ok.self] at e; cases e
 refine wpAny_assign_Name (wpAny_storeName_local hxk ns1 (fun h₂ hn₂ hs₂ => ?_) (by simp [compEnvC, relabel, ok.kind]))
 have m2 : Mv N s₁ { s₁ with heap := h₂, toks := s₁.toks + 1 } := by
  obtain ⟨o2, es2, ep2, e3, e4, _⟩ := id hn₂
  exact ⟨rfl, fun b o hb e => (hs₂.2 b hb).trans e, ⟨o2, e3⟩, fun _ _ _ _ _ => ⟨o2, es2, ep2, e3, e4⟩⟩
 generalize hs2' : ({ s₁ with heap := h₂, toks := s₁.toks + 1 } : Shared) = s₂ at m2 ⊢
 have hh2 : s₂.heap = h₂ := by rw [<- hs2']
 rw [<- hh2] at hn₂
 have lk2 := m2.lk hNX (m1.lk hIX t.lk)
 have it2 := it1.mv m2 hNX (Ne.symm hNI)
 have kp2 : Kp f [] s s₂ := (t.kp.mv m1 hI).mv m2 hN
 have hX' : ∀ a ∈ N :: D :: I :: X, a ∈ X \/ s.heap.get? a = none := zP1 (.inr hN) (.inr hD) (.inr hI) fun a ha => .inl ha
 have fr2 := (st.fr.later st.lk kp2 t.fresh hX' fun a ha => .tail _ (.tail _ (.tail _ ha))).comp ok hcl hNX hn₂ (by simp) (m2.vr hNX rv)
 have cx2 : Cx S A q d (f ++ g) s₂.heap env.frame := st.cx.keep kp2 t.fresh
 have st2 : St S q d (H ++ [x]) scope (compEnvC scope cl N env) (J ++ [x']) (f ++ g) (N :: D :: I :: X) U' s₂ A := ⟨cx2, fr2, lk2⟩
 have il2 : IsL s₂.heap D ys n := m2.keep D _ (Ne.symm hND) (m1.keep D _ hDI t.il)
 have vs2 := m2.vrs hNX (m1.vrs hIX t.vs)
 have hns : yK F q ce cond J x' acc U' ≠ .stuck := fun e => hne (by rw [<- hf, e]; rfl)
 have tests : Sim S A (N :: D :: I :: X) [] (f ++ g) (fun b t _ _ => b = t) (forIn ifs true fun c r => if r = true then do let ok <- isTrue c (compEnvC scope cl N env) (eval c (compEnvC scope cl N env)); pure (ForInStep.yield ok) else pure (ForInStep.yield r)) (evC F q cond (J ++ [x']) U') s₂ := by
  rcases hcond with ⟨rfl, rfl⟩ | ⟨e, c, rfl, rfl, ht⟩
  ·intro _
   rw [zMD]
   exact wpAny_tests_nil (QS.bool lk2 (.refl s₂))
  ·intro hn
   rw [zA9] at hn ⊢
   exact wpAny_tests_one (ht _ _ _ _ _ _ _ st2 hn)
 unfold yK at hns hf
 obtain ⟨b, U3, hb, hbk, hns2, wt⟩ := Sim.calm tests hns
 rw [hbk] at hf
 refine wpAny_mono (wt _) (fun ok' s₃ h₃ => ?_) fun _ _ x => x
 obtain ⟨g3, hg3, k3, lk3, hbe⟩ := h₃
 have hbe : ok' = b := hbe
 subst hbe
 have hXf : ∀ a ∈ N :: D :: I :: X, a ∉ addrs (f ++ g) := fun a ha => (lk2.hid a ha).2.1
 have it3 := it2.keepK k3 hg3 hIX hXf
 have kp3 : Kp f [] s s₃ := kp2.trans t.fresh k3
 have fg3 : Fresh (g ++ g3) s := t.fresh.trans kp2.live hg3
 have keepO : ∀ {s s' : Shared} {f : List Loc} {a : Addr} {o : Obj}, Kp f [] s s' -> a ∉ addrs f -> (∀ es n, o.data ≠ .dict es n) -> s.heap.get? a = some o -> s'.heap.get? a = some o := fun k h1 h2 e => by
  obtain ⟨o', e', q⟩ := k.kept _ _ e h1 (fun h => nomatch h)
  rw [e', q.exact h2]
 have il3 : IsL s₃.heap D ys n := keepO k3 (hXf D hDX) (fun _ _ h => by cases h) il2
 have ns3 := zEO k3 (hXf N hNX) (fun h => nomatch h) hn₂
 have vs3 := VRs.keepK k3 hg3 (fun _ h => nomatch h) vs2
 rw [List.append_assoc] at lk3 it3 vs3
 cases ok' with
 | false => exact ⟨k, Nat.lt_succ_self k, .mk (i + 1) acc U3 (g ++ g3) _ ys n hf ⟨fg3, kp3, lk3, it3, ns3, il3, vs3, t.len⟩⟩
 | true =>
  have hns2 : ((evE F q ce (J ++ [x']) U3).calmE.bind fun y U => (if acc.length < LIM then R.ok (acc ++ [y]) U else .stuck)) ≠ .stuck := hns2
  have hf : (((evE F q ce (J ++ [x']) U3).calmE.bind fun y U => (if acc.length < LIM then R.ok (acc ++ [y]) U else .stuck)).bind fun b U => yw its (yK F q ce cond J) k (i + 1) b U) = total := hf
  have st3 : St S q d (H ++ [x]) scope (compEnvC scope cl N env) (J ++ [x']) ((f ++ g) ++ g3) (N :: D :: I :: X) U3 s₃ A := st2.keep hg3 k3 (by rw [List.append_assoc]; exact lk3)
  rw [List.append_assoc] at st3
  obtain ⟨y, U4, hy, hyk, hns3, we⟩ := Sim.calm (helt _ _ _ _ _ _ _ st3) hns2
  rw [hyk] at hf
  by_cases hlen : acc.length < LIM
  ·rw [if_pos hlen] at hf
   show wpAny _ _ _ _ _ _
   refine wpAny_mono (we _) (fun yv s4' h₄ => ?_) fun _ _ x => x
   obtain ⟨g4, hg4, k4, lk4, ry⟩ := h₄
   have ry : VR S (N :: D :: I :: X) ((f ++ (g ++ g3)) ++ g4) s4'.heap y yv := ry
   have hXf3 : ∀ a ∈ N :: D :: I :: X, a ∉ addrs (f ++ (g ++ g3)) := fun a ha => (lk3.hid a ha).2.1
   have it4 := it3.keepK k4 hg4 hIX hXf3
   have kp4 : Kp f [] s s4' := kp3.trans fg3 k4
   have fg4 : Fresh ((g ++ g3) ++ g4) s := fg3.trans kp3.live hg4
   have il4 : IsL s4'.heap D ys n := keepO k4 (hXf3 D hDX) (fun _ _ h => by cases h) il3
   have ns4 := zEO k4 (hXf3 N hNX) (fun h => nomatch h) ns3
   have vs4 := VRs.keepK k4 hg4 (fun _ h => nomatch h) vs3
   rw [List.append_assoc] at lk4 it4 vs4 ry
   have hsz : ys.size <= sizeLine := by rw [zY vs4]; exact Nat.le_trans t.len yM
   refine zE2 il4 ?_ hsz
   obtain ⟨n', il5⟩ := IsL.appended (x := yv) il4
   have m5 : Mv D s4' { s4' with heap := s4'.heap.update D (Obj.mapSeq (·.push yv)) } :=
    ⟨rfl, fun b o hb e => (Heap.get?_update_other _ _ (Ne.symm hb)).trans e, ⟨_, il5⟩, fun o es n e dd => by rw [il4] at e; cases e; cases dd⟩
   obtain ⟨on4, es4, ep4, e5, e6⟩ := ns4
   refine ⟨k, Nat.lt_succ_self k, .mk (i + 1) (acc ++ [y]) U4 ((g ++ g3) ++ g4) _ (ys.push yv) n' hf ⟨fg4, kp4.mv m5 hD, m5.lk hDX lk4, it4.mv m5 hDX (Ne.symm hDI), ⟨on4, es4, ep4, m5.keep N on4 hND e5, e6⟩, il5, ?_, ?_⟩⟩
   ·rw [Array.toList_push]
    exact xW (m5.vrs hDX vs4) (⟨m5.vr hDX ry, trivial⟩)
   ·rw [List.length_append]; exact hlen
  ·rw [if_neg hlen] at hns3; exact absurd rfl hns3
end
end Mine
end

section
namespace Mine
open PySem PyProof.Rows
section
variable {S : zO} {C : Ctx} {T : Nat -> Option Fn} {F : Calls} {q : Bool} {d : Nat} {H : List Str} {sc : Scope}
variable {X X' Y Z : List Addr} {f g : List Loc} {U : Sto} {s s' : Shared} {A : Around} {E : Value -> Shared -> Prop} {I a : Addr} {its : Items} {i : Nat} {env : Env} {J : List V}
theorem zBK {scope : Scope} {x : Str} {px pos : Pos} {elt iter : Expr} {ifs : List Expr} {ce : CE} {cond : Option CE} {cl : List (Str × Addr)} {RR : Value -> Addr -> Result -> Shared -> Prop} {s₂ : Shared} {U1 : Sto}
  (st : St S q d H sc env J f X U s A) (hh : A.handled = none) (ok : vF H sc scope x) (hcl : ∀ y, (y, NameKind.free) ∈ scope.names -> ∃ c, cl.lookup y = some c /\ env.cells.lookup y = some c)
  (hcond : (ifs = [] /\ cond = none) \/ ∃ e c, ifs = [e] /\ cond = some c /\ TOk S F q d (H ++ [x]) scope e c) (helt : EOk S F q d (H ++ [x]) scope elt ce)
  (hI : s.heap.get? I = none) (hg : Fresh g s) (k : Kp f [] s s₂) (L : Lk S (I :: X) (f ++ g) U1 s₂.heap) (x0 : ItAt S (I :: X) (f ++ g) s₂.heap I its 0)
  (hne : zn its (yK F q ce cond J) [] U1 ≠ .stuck)
  (hR : ∀ N D acc U' g m ys n s', s.heap.get? N = none -> s.heap.get? D = none -> N ≠ D -> zn its (yK F q ce cond J) [] U1 = .ok acc U' -> Fresh g s -> Kp f [] s s' -> Lk S (N :: D :: X) (f ++ g) U' s'.heap -> s'.heap.Ns N m -> IsL s'.heap D ys n -> VRs S (N :: D :: X) (f ++ g) s'.heap acc ys.toList -> acc.length <= LIM -> RR (.ref D) N (.ok .next) s')
  : wpAny (model S.prog S.w) A (newList []) (fun acc s₃ => wpAny (model S.prog S.w) A (newFunctionEnv scope env.globals cl [] env.qual none .none (some env)) (fun cenv s₄ =>
   codeAny (model S.prog S.w) A (.compStart (.ListComp elt [⟨.Name x px, iter, ifs, 0⟩] scope pos) 0 (.ref I) acc { cenv with scope := relabel scope env }) (RR acc cenv.locals) s₄) E s₃) E s₂ := by
 refine wpAny_newObj_type (wpAny_newFunctionEnv ok.cell (by intro y hy; simp at hy) (fun h₁ hns1 hsb1 => ?_) ok.kind)
 dsimp only at hns1 hsb1 ⊢
 generalize hH2 : s₂.heap.push { cls := .type "list", dict := none, data := .seq ([] : List Value).toArray } = H2 at hns1 hsb1 ⊢
 have hsz : H2.objs.size = s₂.heap.objs.size + 1 := by rw [<- hH2, Heap.size_push]
 have hND : H2.objs.size ≠ s₂.heap.objs.size := by rw [hsz]; omega
 have ex1 : Ext s₂ { s₂ with heap := H2 } := ⟨rfl, fun b o e => hH2 ▸ Heap.get?_push_of_some _ e⟩
 have nD : s₂.heap.get? s₂.heap.objs.size = none := yb _
 have lD : H2.get? s₂.heap.objs.size = some { cls := .type "list", dict := none, data := .seq ([] : List Value).toArray } := hH2 ▸ Heap.get?_push_size _ rfl
 have nN : H2.get? H2.objs.size = none := yb _
 have ex2 : Ext { s₂ with heap := H2 } { s₂ with heap := h₁, toks := s₂.toks + ([] : List (Str × Value)).length } := ⟨rfl, fun b o e => (hsb1.2 b (fun q => by subst q; rw [nN] at e; cases e)).trans (Heap.get?_push_of_some _ e)⟩
 obtain ⟨oN, esN, epN, eN, _⟩ := id hns1
 have L1 : Lk S (s₂.heap.objs.size :: I :: X) (f ++ g) U1 H2 := L.hideNew ex1 nD lD
 have it1 := x0.hideNew (s' := { s₂ with heap := H2 }) ex1 nD
 have L2 : Lk S (H2.objs.size :: s₂.heap.objs.size :: I :: X) (f ++ g) U1 h₁ := Lk.hideNew (s := { s₂ with heap := H2 }) (s' := { s₂ with heap := h₁, toks := s₂.toks + ([] : List (Str × Value)).length }) L1 ex2 nN eN
 have it2 := ItAt.hideNew (s := { s₂ with heap := H2 }) (s' := { s₂ with heap := h₁, toks := s₂.toks + ([] : List (Str × Value)).length }) ex2 nN it1
 have k2 : Kp f [] s { s₂ with heap := h₁, toks := s₂.toks + ([] : List (Str × Value)).length } := k.trans hg ((ex1.trans ex2).kp _ _)
 have hD : s.heap.get? s₂.heap.objs.size = none := zw k.live nD
 have hN : s.heap.get? H2.objs.size = none := zw k.live (Heap.get?_none_of_le (by rw [hsz]; omega))
 have lI : ∃ o, s₂.heap.get? I = some o := (L.hid I (by simp)).2.2
 have hDI : s₂.heap.objs.size ≠ I := fun q => by obtain ⟨o, e⟩ := lI; rw [<- q, nD] at e; cases e
 have hNI : H2.objs.size ≠ I := fun q => by obtain ⟨o, e⟩ := lI; rw [<- q, Heap.get?_none_of_le (by rw [hsz]; omega)] at e; cases e
 have turn : zM0 S s X f H2.objs.size s₂.heap.objs.size I its 0 [] U1 g (fun x => ([] : List (Str × Value)).reverse.lookup x) #[] 0 { s₂ with heap := h₁, toks := s₂.toks + ([] : List (Str × Value)).length } :=
  ⟨hg, k2, L2, it2, hns1, ex2.keep _ _ lD, (by show VRs S _ _ h₁ [] []; exact True.intro), by simp⟩
 have loop : codeAny (model S.prog S.w) A (.compLoop (.ListComp elt [⟨.Name x px, iter, ifs, 0⟩] scope pos) 0 (.ref I) (.ref s₂.heap.objs.size) (compEnvC scope cl H2.objs.size env)) (RR (.ref s₂.heap.objs.size) H2.objs.size) { s₂ with heap := h₁, toks := s₂.toks + ([] : List (Str × Value)).length } :=
  zHD st hh ok hcl hcond helt hN hD hI hND hNI hDI hne rfl turn (fun acc U' g m ys n s' e1 e2 e3 e4 e5 e6 e7 e8 => hR _ _ acc U' g m ys n s' hN hD hND e1 e2 e3 e4 e5 e6 e7 e8)
 exact codeAny_compStart_list loop (zHP it2 loop)
theorem FR.closure {scope : Scope} {x : Str} {h : Heap} (fr : FR S X f h env H sc J) (ok : vF H sc scope x) : ∃ cl, closureFor scope env = pure cl /\ ∀ y, (y, NameKind.free) ∈ scope.names -> ∃ c, cl.lookup y = some c /\ env.cells.lookup y = some c :=
 zE6 fun n hn => by
  obtain ⟨c, o, e, _⟩ := fr.cells n (fr.cellKind (ok.free _ hn rfl))
  exact ⟨c, e⟩
theorem kx {elt : CE} {k : SK} {cs : List CE} {cond : Option CE} (hq : q = false) : evE F q (.comp elt k cs cond) J U = ((evL F q cs J U).bind fun vs U => R.lift U (zT U k vs)).bind fun its U => (zn its (yK F q elt cond J) [] U).bind fun acc U => .ok (.lst acc) U := by
 subst hq
 rw [zK4, if_neg (by simp), R.bind_assoc]
 rfl
theorem zGZ {scope : Scope} {x : Str} {px pos : Pos} {elt iter : Expr} {ifs : List Expr} {ce : CE} {cond : Option CE} {k : SK} {cs : List CE} (ok : vF H sc scope x) (hsrc : zAj S F q d H sc iter k cs)
  (hcond : (ifs = [] /\ cond = none) \/ ∃ e c, ifs = [e] /\ cond = some c /\ TOk S F q d (H ++ [x]) scope e c) (helt : EOk S F q d (H ++ [x]) scope elt ce) :
  NOk S F q d H sc (.ListComp elt [⟨.Name x px, iter, ifs, 0⟩] scope pos) (.comp ce k cs cond) := fun env J f X U s A st hne => by
 have hq : q = false := by
  cases q with
  | false => rfl
  | true => rw [zK4] at hne; exact absurd rfl hne
 rw [kx hq] at hne ⊢
 obtain ⟨cl, hclos, hcl⟩ := st.fr.closure ok
 rw [eval_ListComp]
 refine wpAny_comprehension_free (g := ⟨.Name x px, iter, ifs, 0⟩) (gs := []) rfl (hsrc.1 env) hclos ok.kind (fun p hp e => (ok.loc p hp e).2) ?_
 have hr : ((evL F q cs J U).bind fun vs U => R.lift U (zT U k vs)) ≠ .stuck := fun e => hne (by rw [e]; rfl)
 refine wpAny_mono (hsrc.2 env J f X U s A st hr) (fun xv s₁ h₁ => wpAny_mono h₁ (fun it s₂ h₂ => ?_) fun e s' h => ?_) fun e s' h => ?_
 ·obtain ⟨its, U1, g, I, e1, rfl, hI, hIX, hg, kk, L, x0⟩ := h₂
  rw [e1, R.bind_ok] at hne ⊢
  have hne2 : zn its (yK F q ce cond J) [] U1 ≠ .stuck := fun e => hne (by rw [e]; rfl)
  refine zBK st (st.cx.hand hq) ok hcl hcond helt hI hg kk L x0 hne2 (fun N D acc U' g' m ys n s' hN hD hND e2 hg' k' L' hns il vs hlen => ?_)
  rw [e2]
  refine ⟨m, hns, fun h' hs => ?_⟩
  have hkk : ∀ b o, b ∉ [N] -> s'.heap.get? b = some o -> h'.get? b = some o := fun b o hb e => (hs.2 b (fun q => hb (q ▸ List.mem_singleton.mpr rfl))).trans e
  have hNX : N ∉ X := (st.lk.new hN).2
  have hDX : D ∉ X := (st.lk.new hD).2
  have LD : Lk S (D :: X) (f ++ g') U' h' := L'.drop (Z := [N]) (fun a ha => ⟨List.mem_cons_of_mem _ ha, fun h => by
   have := List.mem_singleton.mp h
   subst this
   exact (List.mem_cons.mp ha).elim hND hNX⟩) (fun a ha => List.mem_singleton.mp ha ▸ List.mem_cons_self) hkk
  have vD : VRs S (D :: X) (f ++ g') h' acc ys.toList := VRs.drop (Z := [N]) (fun a ha => List.mem_cons_of_mem _ ha) (fun a ha => List.mem_singleton.mp ha ▸ List.mem_cons_self) hkk vs
  have iD : IsL h' D ys n := (hs.2 D (Ne.symm hND)).trans il
  refine ⟨.lst acc, U', g', rfl, hg', k'.ends (Z := [N]) rfl hkk (fun b hb => List.mem_singleton.mp hb ▸ hN), LD.less fun a ha => List.mem_cons_of_mem _ ha, ?_, fun xs hxs => ?_⟩
  ·exact ⟨D, ys, n, rfl, ⟨(LD.hid D List.mem_cons_self).2.1, hDX⟩, iD, vD.less fun a ha => List.mem_cons_of_mem _ ha, hlen⟩
  ·cases hxs
   exact ⟨D, ys, n, rfl, hD, hDX, LD, iD, vD, hlen⟩
 ·obtain ⟨c, U', g, ea, e1, e2, hgE, kE, LE, xE⟩ := h
  exact ⟨c, U', g, ea, e1, by rw [e2]; rfl, hgE, kE, LE, xE⟩
 ·obtain ⟨c, U', g, ea, e1, e2, hgE, kE, LE, xE⟩ := h
  exact ⟨c, U', g, ea, e1, by rw [e2]; rfl, hgE, kE, LE, xE⟩
end
end Mine
end

section
namespace Mine
open PySem PyProof.Rows
section
variable {S : zO} {C : Ctx} {T : Nat -> Option Fn} {F : Calls} {q : Bool} {d : Nat} {H : List Str} {sc : Scope}
variable {X X' Y Z : List Addr} {f g : List Loc} {U : Sto} {s s' : Shared} {A : Around} {E : Value -> Shared -> Prop} {env : Env} {J : List V}
theorem zPC {e : Expr} {pos : Pos} (hs : isStar e = false) : ((backTo pos (starEach [e] env)).all (fun x => !x.1) && (backToKw pos (keywordEach [] env)).all (fun x => x.1.isSome)
   && decide ([e].length + ([] : List Keyword).length + (if ([] : List Keyword).isEmpty then 0 else 1) < 30)) = true := by
 rw [zx hs]; rfl
theorem zQF {pos : Pos} : ((backTo pos (starEach [] env)).all (fun x => !x.1) && (backToKw pos (keywordEach [] env)).all (fun x => x.1.isSome)
   && decide (([] : List Expr).length + ([] : List Keyword).length + (if ([] : List Keyword).isEmpty then 0 else 1) < 30)) = true := rfl
theorem zBm {n : Nat} {ax : Addr} {xs : List V} {vs : Array Value} {k : Nat} {fn : Array Value -> Array Value} (L : Lk S X f U s.heap) (hn : f[n]? = some (ax, none)) (il : IsL s.heap ax vs k) (rs : VRs S X f s.heap xs (fn vs).toList) (hl : xs.length <= LIM) :
  Lk S X f (U.set n (.list xs)) (s.heap.update ax (Obj.mapSeq fn)) /\ Kp f [] s { s with heap := s.heap.update ax (Obj.mapSeq fn) } := by
 have hs : ∀ b o, b ∉ Loc.addrs (ax, none) -> s.heap.get? b = some o -> (s.heap.update ax (Obj.mapSeq fn)).get? b = some o := fun b o hb e => (Heap.get?_update_other s.heap (Obj.mapSeq fn) (fun q : ax = b => hb (by rw [q]; exact List.mem_singleton.mpr rfl))).trans e
 have il' := IsL.update il fn
 have hax : ax ∈ addrs f := zt hn (List.mem_singleton.mpr rfl)
 refine ⟨L.upd hn hs ⟨_, _, il', ?_, hl⟩, Kp.upd (t := s.toks) hn hs fun a ha => ⟨_, by have := List.mem_singleton.mp ha; subst this; exact il'⟩⟩
 exact VRs.keep (fun _ _ e => e) (fun b ob q h1 h2 => ⟨⟨h1, h2⟩, ob, hs b ob (fun z => h1 (List.mem_singleton.mp z ▸ hax)) q, .refl ob⟩) _ _ rs
inductive zLH (S : zO) (X : List Addr) (f : List Loc) (h : Heap) (xs : List V) (n : Nat) (v : Value) : Prop
 | mk (ax : Addr) (vs : Array Value) (k : Nat) (e : v = .ref ax) (hf : f[n]? = some (ax, none)) (i : IsL h ax vs k) (p : VRs S X f h xs vs.toList) (hl : xs.length <= LIM)
theorem wy {n : Nat} {v : Value} {xs : List V} (L : Lk S X f U s.heap) (r : VR S X f s.heap (.ref n) v) (ho : U[n]? = some (.list xs)) : zLH S X f s.heap xs n v := by
 obtain ⟨⟨ax, dd⟩, hl, rfl⟩ := r
 have := L.obj n _ _ hl ho
 cases dd with
 | none => obtain ⟨vs, k, il, rs, h⟩ := this; exact ⟨ax, vs, k, rfl, hl, il, rs, h⟩
 | some dd => exact this.elim
theorem zIt {o x : Expr} {a b : CE} {apos pos : Pos} (hb : noSuper o = true) (hp : (apos.endLine == pos.line) = true) (hs : isStar x = false) (ho : EOk S F q d H sc o a) (hx : EOk S F q d H sc x b) :
  EOk S F q d H sc (.Call (.Attribute o ("append" : Str) apos) [x] [] pos) (.append a b) := fun env J f X U s A st hne => by
 rw [zEx] at hne ⊢
 refine wpAny_Call_method (wE hb) (zPC hs) hp PySem.F.plainAttrs_list slot_list_append type_list_append ?_
 refine Sim.goQ (P' := PV S X) (ho env J f X U s A st) hne (fun _ _ x => x) (fun _ _ x => x) fun va a' U1 g₁ s₁ hne hg k L ra hQ hE => ?_
 by_cases hil : kP U1 a' = true
 ·rw [if_pos hil] at hne hQ hE
  obtain ⟨xs1, hxs1⟩ := Option.isSome_iff_exists.mp hil
  obtain ⟨p, vs, n, rfl, il, rs, hlen⟩ := yE L hxs1 ra
  refine ⟨⟨_, il, rfl⟩, fun b hb => ⟨_, by cases hb; exact il, rfl⟩, ?_⟩
  rw [zx hs]
  show wpAny _ _ (callWith pos (.builtin "list.append") [.ref p] [(false, eval x env)] []) _ _ _
  refine P.append_list ?_
  refine Sim.goQ (P' := PV S X) (hx env J _ X U1 s₁ A (st.keep hg k L)) hne hQ hE fun vb b' U2 g₂ s₂ hne hg₂ k₂ L₂ rb hQ hE => ?_
  have ra2 := VR.keepK k₂ hg₂ (fun _ h => nomatch h) ra
  cases a' with
  | ref m =>
   simp only [wY] at hne hQ
   split at hne
   ·rename_i xs hU
    split at hne
    ·rename_i hlt
     rw [hU] at hQ
     simp only [if_pos hlt] at hQ
     obtain ⟨ax, vs', k', e, hf, il', rs', hlen'⟩ := wy L₂ ra2 hU
     cases e
     refine ⟨vs', k', by rw [zY rs']; exact Nat.le_trans hlen' yM, il', hQ _ _ ?_⟩
     obtain ⟨L3, k3⟩ := zBm (fn := fun xs => xs.push vb) (xs := xs ++ [b']) L₂ hf il' (by rw [Array.toList_push]; exact xW rs' (⟨rb, trivial⟩)) (by rw [List.length_append]; exact hlt)
     exact ⟨.none, _, [], rfl, .nil _, k3, by rw [List.append_nil]; exact L3, rfl⟩
    ·exact absurd rfl hne
   ·exact absurd rfl hne
  | _ => exact absurd rfl hne
 ·rw [if_neg hil] at hne; exact absurd rfl hne
theorem zKV {o : Expr} {a : CE} {apos pos : Pos} (hb : noSuper o = true) (hp : (apos.endLine == pos.line) = true) (ho : EOk S F q d H sc o a) :
  EOk S F q d H sc (.Call (.Attribute o ("clear" : Str) apos) [] [] pos) (.clear a) := fun env J f X U s A st hne => by
 rw [zGt] at hne ⊢
 refine wpAny_Call_method (wE hb) zQF hp PySem.F.plainAttrs_list PySem.F.slot_list_clear PySem.F.type_list_clear ?_
 refine Sim.goQ (P' := PV S X) (ho env J f X U s A st) hne (fun _ _ x => x) (fun _ _ x => x) fun va a' U1 g₁ s₁ hne hg k L ra hQ hE => ?_
 cases a' with
 | ref m =>
  simp only [zC6] at hne hQ
  split at hne
  ·rename_i xs hU
   rw [hU] at hQ
   obtain ⟨ax, vs, k', rfl, hf, il, rs, hlen⟩ := wy L ra hU
   refine ⟨⟨_, il, rfl⟩, fun b hb => ⟨_, by cases hb; exact il, rfl⟩, ?_⟩
   show wpAny _ _ (callWith pos (.builtin "list.clear") [.ref ax] [] []) _ _ _
   obtain ⟨L3, k3⟩ := zBm (fn := fun _ => #[]) (xs := []) L hf il (True.intro) (Nat.zero_le _)
   exact P.clear_list il (hQ _ _ ⟨.none, _, [], rfl, .nil _, k3, by rw [List.append_nil]; exact L3, rfl⟩) (by rw [zY rs]; exact Nat.le_trans hlen yM)
  ·exact absurd rfl hne
 | _ => exact absurd rfl hne
theorem zKb {o x : Expr} {a b : CE} {apos pos : Pos} {m : Str} {id : String} {p : P2} (hso : ∀ U a, zFh p U a = (strOf? a).isSome) (slot : Slot "str" m id) (hty : typeOf (.builtin id) = pure (.type "method_descriptor"))
  (op : ∀ (X : List Addr) (f : List Loc) (U : Sto) (s : Shared) (A : Around) (E : Value -> Shared -> Prop) (a b x : V) (va vb : Value), Lk S X f U s.heap -> ev2 p U a b = some x -> VR S X f s.heap a va -> VR S X f s.heap b vb -> wpAny (model S.prog S.w) A (call (.builtin id) [va, vb]) (PE S X f s x) E s)
  (hb : noSuper o = true) (hp : (apos.endLine == pos.line) = true) (hs : isStar x = false) (ho : EOk S F q d H sc o a) (hx : EOk S F q d H sc x b) :
  EOk S F q d H sc (.Call (.Attribute o m apos) [x] [] pos) (.sm p a b) := fun env J f X U s A st hne => by
 rw [zPr] at hne ⊢
 refine wpAny_Call_method (wE hb) (zPC hs) hp PySem.F.plainAttrs_str slot hty ?_
 refine Sim.goN (ho env J f X U s A st) hne (fun _ _ x => x.qs) (fun _ _ x => x) fun va a' U1 g₁ s₁ hne hg k L ra hQ hE => ?_
 rw [hso] at hne hQ hE
 by_cases hil : (strOf? a').isSome = true
 ·rw [if_pos hil] at hne hQ hE
  obtain ⟨y, hy⟩ := Option.isSome_iff_exists.mp hil
  cases a' <;> cases hy
  obtain ⟨⟨t, rfl⟩, _⟩ := yq ra
  refine ⟨typeIs_str _ _ _, (fun _ e => nomatch e), yX (zl _ (by rw [List.any_cons, hs]; rfl)) (zBe hs ?_)⟩
  refine Sim.goN (hx env J _ X U1 s₁ A (st.keep hg k L)) hne hQ hE fun vb b' U2 g₂ s₂ hne hg₂ k₂ L₂ rb hQ hE => ?_
  obtain ⟨x, hx⟩ := yf hne
  rw [hx] at hQ
  exact ⟨yo (by simp), wpAny_mono (op X _ U2 s₂ A _ _ b' x _ vb L₂ hx (VR.keepK k₂ hg₂ (fun _ h => nomatch h) ra) rb) (fun v s' p => hQ v s' (p.here L₂)) fun _ _ x => x⟩
 ·rw [if_neg hil] at hne; exact absurd rfl hne
theorem zPe {o x : Expr} {a b : CE} {apos pos : Pos} {m : Str} {p : P2} (hm : m1Names.lookup m = some p) (hb : noSuper o = true) (hp : (apos.endLine == pos.line) = true) (hs : isStar x = false) (ho : EOk S F q d H sc o a) (hx : EOk S F q d H sc x b) :
  EOk S F q d H sc (.Call (.Attribute o m apos) [x] [] pos) (.sm p a b) := by
 have hm := zR hm
 simp only [m1Names, List.mem_cons, Prod.mk.injEq, List.not_mem_nil, or_false] at hm
 rcases hm with ⟨rfl, rfl⟩
 ·exact zKb (fun _ _ => rfl) PySem.F.slot_str_join PySem.F.type_str_join (fun _ _ _ _ _ _ _ _ _ _ _ L e ra rb => zFP L e ra rb) hb hp hs ho hx
end
end Mine
end

section
namespace Mine
open PySem PyProof.Rows
noncomputable def ya (env : Env) : List Addr := env.locals :: env.cells.map (·.2)
structure FW (env : Env) (X : List Addr) : Prop where
 loc : env.locals ∈ X
 mem : ∀ p ∈ env.cells, p.2 ∈ X
 inj : ∀ x y c, env.cells.lookup x = some c -> env.cells.lookup y = some c -> x = y
theorem FW.cellX {env : Env} {X : List Addr} (fw : FW env X) (x : Str) (c : Addr) (h : env.cells.lookup x = some c) : c ∈ X := fw.mem _ (zR h)
theorem zBW {β : Type} {x : Str} {y : β} : ∀ {l : List (Str × β)}, l.lookup x = some y -> y ∈ l.map (·.2) := fun h => List.mem_map_of_mem (f := (·.2)) (zR h)
noncomputable def FlR (S : zO) (X : List Addr) (f : List Loc) (h : Heap) (env : Env) (H : List Str) (sc : Scope) : Fl -> Flow -> Prop
 | .next J, fl => fl = .next /\ FR S X f h env H sc J
 | .ret v, fl => ∃ w, fl = .ret w /\ VR S X f h v w
inductive QF (S : zO) (X : List Addr) (env : Env) (H : List Str) (sc : Scope) (f : List Loc) (s : Shared) (r : R Fl) (fl : Flow) (s' : Shared) : Prop where
 | mk (x : Fl) (U' : Sto) (g : List Loc) (e : r = .ok x U') (hg : Fresh g s) (k : Kp f (ya env) s s') (L : Lk S X (f ++ g) U' s'.heap) (p : FlR S X (f ++ g) s'.heap env H sc x fl)
section
variable (S : zO) (F Fq : Calls) (q : Bool) (d : Nat)
noncomputable def SOk (H : List Str) (sc : Scope) (st : Stmt) (c : CS) : Prop := ∀ (env : Env) (J : List V) (f : List Loc) (X : List Addr) (U : Sto) (s : Shared) (A : Around), St S q d H sc env J f X U s A -> FW env X ->
 exS F Fq q c J U ≠ .stuck -> wpAny (model S.prog S.w) A (exec st env) (QF S X env H sc f s (exS F Fq q c J U)) (ES S X (ya env) f false s (exS F Fq q c J U)) s
noncomputable def LSOk (H : List Str) (sc : Scope) (st : List Stmt) (c : List CS) : Prop := ∀ (env : Env) (J : List V) (f : List Loc) (X : List Addr) (U : Sto) (s : Shared) (A : Around), St S q d H sc env J f X U s A -> FW env X ->
 exL F Fq q c J U ≠ .stuck -> wpAny (model S.prog S.w) A (execs st env) (QF S X env H sc f s (exL F Fq q c J U)) (ES S X (ya env) f false s (exL F Fq q c J U)) s
end
section
variable {S : zO} {C : Ctx} {T : Nat -> Option Fn} {F Fq : Calls} {q : Bool} {d : Nat} {H : List Str} {sc : Scope}
variable {X X' Y Z : List Addr} {f g : List Loc} {U : Sto} {s s' : Shared} {A : Around} {E : Value -> Shared -> Prop} {I a : Addr} {its : Items} {i : Nat} {env : Env} {J : List V}
theorem QF.lifts : zBt (ya env) (fun f s r a s' => QF S X env H sc f s r a s') := fun f g s s₁ r c s' hg k q => by
 obtain ⟨b', U'', g', e, hg', k', L, p⟩ := q
 rw [List.append_assoc] at L p
 exact ⟨b', U'', g ++ g', e, hg.trans k.live hg', k.trans hg k', L, p⟩
theorem Sim.goS {α β : Type} {P : α -> β -> List Loc -> Shared -> Prop}
  {t : Sem α} {r : R β} {rk : β -> Sto -> R Fl} {W : α -> Shared -> Prop} {Q' : Flow -> Shared -> Prop} {E' : Value -> Shared -> Prop} (h : Sim S A X [] f P t r s) (hne : r.bind rk ≠ .stuck)
  (hQ : ∀ c s'', QF S X env H sc f s (r.bind rk) c s'' -> Q' c s'') (hE : ∀ e s'', ES S X (ya env) f false s (r.bind rk) e s'' -> E' e s'')
  (hk : ∀ a b U' g s', rk b U' ≠ .stuck -> Fresh g s -> Kp f [] s s' -> Lk S X (f ++ g) U' s'.heap -> P a b (f ++ g) s' -> (∀ c s'', QF S X env H sc (f ++ g) s' (rk b U') c s'' -> Q' c s'') ->
   (∀ e s'', ES S X (ya env) (f ++ g) false s' (rk b U') e s'' -> E' e s'') -> W a s') : wpAny (model S.prog S.w) A t W E' s := by
 have hr : r ≠ .stuck := fun e => hne (by rw [e]; rfl)
 refine wpAny_mono (h hr) (fun a s' q => ?_) fun e s' q => hE e s' ?_
 ·obtain ⟨b, U', g, rfl, hg, k, L, p⟩ := q
  have ky : Kp f (ya env) s s' := k.mono fun a h => nomatch h
  exact hk a b U' g s' hne hg k L p (fun c s'' q => hQ c s'' (QF.lifts f g s s' _ c s'' hg ky q)) fun e s'' q => hE e s'' (ES.lifts f g s s' _ e s'' hg ky q)
 ·obtain ⟨c, U', g, ea, e1, rfl, hg, k, L, x⟩ := q
  exact ⟨c, U', g, ea, e1, rfl, hg, (k.mono fun a h => nomatch h), L, x⟩
theorem wQ {y : Str} : ∀ {H : List Str} {i : Nat}, zr y H = some i -> H[i]? = some y
 | [], i, h => by simp [zr] at h
 | z :: H, i, h => by
  simp only [zr] at h
  split at h
  ·rename_i j hj; cases h; simpa using wQ hj
  ·split at h
   ·rename_i e; cases h; rw [eq_of_beq e]; rfl
   ·first | exact zB h | exact zF h | cases h
theorem zAr {x : Str} (h : yp H sc x = some i) : (sc.names.lookup x = some .local \/ sc.names.lookup x = some .cell) /\ zr x H = some i := by
 unfold yp at h
 split at h
 ·rename_i e
  simp only [Bool.or_eq_true] at e
  exact ⟨e.imp (fun q => eq_of_beq q) fun q => eq_of_beq q, h⟩
 ·first | exact zB h | exact zF h | cases h
theorem FR.mv (m : Mv a s s') (ha : a ∈ X) (hl : env.locals ≠ a) (hc : ∀ x c, env.cells.lookup x = some c -> c ≠ a) (fr : FR S X f s.heap env H sc J) : FR S X f s'.heap env H sc J := by
 have ns : ∀ {b : Addr} {m' : Str -> Option Value}, b ≠ a -> s.heap.Ns b m' -> s'.heap.Ns b m' := fun hb h => by
  obtain ⟨o, es, ep, ho, r⟩ := h
  exact ⟨o, es, ep, m.keep _ _ hb ho, r⟩
 have cl : ∀ {b : Addr} {m' : Option Value}, b ≠ a -> s.heap.IsCell b m' -> s'.heap.IsCell b m' := fun hb h => by
  obtain ⟨o, ho, r⟩ := h
  exact ⟨o, m.keep _ _ hb ho, r⟩
 refine ⟨fr.kind, fr.glob, fr.blt, fr.names, ⟨fr.loc.1, let ⟨m', h⟩ := fr.loc.2; ⟨m', ns hl h⟩⟩, fun x hx => ?_, fun x i v h1 h2 h3 h4 => ?_, fr.len⟩
 ·obtain ⟨c, o, e1, hX, h⟩ := fr.cells x hx
  exact ⟨c, o, e1, hX, cl (hc x c e1) h⟩
 ·obtain ⟨w, h5, h6⟩ := fr.vals x i v h1 h2 h3 h4
  refine ⟨w, ?_, m.vr ha h6⟩
  rcases h5 with ⟨k, m', h7, h8⟩ | ⟨k, c, h7, h8⟩
  ·exact .inl ⟨k, m', ns hl h7, h8⟩
  ·exact .inr ⟨k, c, h7, cl (hc x c h7) h8⟩
theorem xi {x : Str} {v : V} {w : Value} {Q : Unit -> Shared -> Prop} (fr : FR S X f s.heap env H sc J) (fw : FW env X) (hx : yp H sc x = some i) (r : VR S X f s.heap v w)
  (h : ∀ a s', a ∈ ya env -> a ∈ X -> Mv a s s' -> FR S X f s'.heap env H sc (J.set i v) -> Q () s') : wpAny (model S.prog S.w) A (storeName env x w) Q E s := by
 obtain ⟨hk, hi⟩ := zAr hx
 have hkind : env.kindOf x = some .local \/ env.kindOf x = some .cell := by
  rcases fr.names x with e | ⟨e, _⟩
  ·rw [e]; exact hk
  ·rcases hk with h | h <;> rw [h] at e <;> cases e
 have hvx : zAn sc x = true := by unfold zAn; rcases hk with h | h <;> rw [h]
 have hil : i < J.length := by rw [fr.len]; exact wr hi
 obtain ⟨m, hm⟩ := fr.loc.2
 have same : ∀ y, zr y H = some i -> y = x := fun y hy => by
  have h1 := wQ hy
  rw [wQ hi] at h1; cases h1; rfl
 have setv : ∀ {j : Nat} {v' : V}, (J.set i v)[j]? = some v' -> j ≠ i -> J[j]? = some v' := fun h hne => by rwa [List.getElem?_set_ne (fun q => hne q.symm)] at h
 have cellNe : ∀ x c, yG (env.kindOf x) -> env.cells.lookup x = some c -> c ≠ env.locals := fun x c hk e q => by
  obtain ⟨c', o, e', _, ⟨ob, h1, h2⟩⟩ := fr.cells x hk
  rw [e] at e'; cases e'
  obtain ⟨ob', es, ep, h3, h4, _⟩ := hm
  rw [q, h3] at h1; cases h1; rw [h4] at h2; cases h2
 rcases hkind with hl | hc
 ·refine wpAny_storeName_local hl hm (fun h' hn' hs' => ?_) (by simp [fr.kind])
  obtain ⟨o2, es2, ep2, e3, e4, _⟩ := id hn'
  have mv : Mv env.locals s { s with heap := h', toks := s.toks + 1 } := ⟨rfl, fun b o hb e => (hs'.2 b hb).trans e, ⟨o2, e3⟩, fun _ _ _ _ _ => ⟨o2, es2, ep2, e3, e4⟩⟩
  refine h env.locals _ List.mem_cons_self fw.loc mv ?_
  have cl : ∀ {b : Addr} {m' : Option Value}, b ≠ env.locals -> s.heap.IsCell b m' -> h'.IsCell b m' := fun hb h => by
   obtain ⟨o, ho, r⟩ := h
   exact ⟨o, mv.keep _ _ hb ho, r⟩
  refine ⟨fr.kind, fr.glob, fr.blt, fr.names, ⟨fr.loc.1, _, hn'⟩, fun y hy => ?_, fun y j v' h1 h2 h3 h4 => ?_, by rw [List.length_set]; exact fr.len⟩
  ·obtain ⟨c, o, e1, hX, h5⟩ := fr.cells y hy
   exact ⟨c, o, e1, hX, cl (cellNe y c hy e1) h5⟩
  ·by_cases hj : j = i
   ·subst hj
    have hy := same y h2
    subst hy
    rw [List.getElem?_set_self hil] at h3; cases h3
    exact ⟨w, .inl ⟨hl, _, hn', by simp⟩, mv.vr fw.loc r⟩
   ·obtain ⟨w', h5, h6⟩ := fr.vals y j v' h1 h2 (setv h3 hj) h4
    refine ⟨w', ?_, mv.vr fw.loc h6⟩
    rcases h5 with ⟨k, m', h7, h8⟩ | ⟨k, c, h7, h8⟩
    ·refine .inl ⟨k, _, hn', ?_⟩
     have hyx : y ≠ x := fun q => by rw [q, hi] at h2; cases h2; exact hj rfl
     obtain ⟨ob, es, ep, q1, q2, q3, q4⟩ := h7
     obtain ⟨ob', es', ep', p1, p2, p3, p4⟩ := hm
     rw [q1] at p1; cases p1; rw [q2] at p2; cases p2
     show (if y = x then some w else m y) = some w'
     rw [if_neg hyx, <- p4 y, q4 y, h8]
    ·exact .inr ⟨k, c, h7, cl (cellNe y c k h7) h8⟩
 ·obtain ⟨c, o, e1, hX, hcell⟩ := fr.cells x (.inl hc)
  refine wpAny_storeName_cell fr.kind hc e1 hcell fun h' hc' hs' => ?_
  obtain ⟨o2, e3, e4⟩ := id hc'
  have mv : Mv c s { s with heap := h' } := ⟨rfl, fun b o hb e => (hs'.2 b hb).trans e, ⟨o2, e3⟩, fun ob es n q1 q2 => by
   obtain ⟨ob', q3, q4⟩ := hcell
   rw [q3] at q1; cases q1; rw [q4] at q2; cases q2⟩
  refine h c _ (List.mem_cons_of_mem _ (zBW e1)) hX mv ?_
  have hlne : env.locals ≠ c := fun q => cellNe x c (.inl hc) e1 q.symm
  have ns : ∀ {m' : Str -> Option Value}, s.heap.Ns env.locals m' -> h'.Ns env.locals m' := fun h => by
   obtain ⟨o, es, ep, ho, r⟩ := h
   exact ⟨o, es, ep, mv.keep _ _ hlne ho, r⟩
  have cl : ∀ {b : Addr} {m' : Option Value}, b ≠ c -> s.heap.IsCell b m' -> h'.IsCell b m' := fun hb h => by
   obtain ⟨o, ho, r⟩ := h
   exact ⟨o, mv.keep _ _ hb ho, r⟩
  refine ⟨fr.kind, fr.glob, fr.blt, fr.names, ⟨fr.loc.1, _, ns hm⟩, fun y hy => ?_, fun y j v' h1 h2 h3 h4 => ?_, by rw [List.length_set]; exact fr.len⟩
  ·obtain ⟨c', o', e1', hX', h5⟩ := fr.cells y hy
   by_cases hcc : c' = c
   ·subst hcc; exact ⟨c', _, e1', hX, hc'⟩
   ·exact ⟨c', o', e1', hX', cl hcc h5⟩
  ·by_cases hj : j = i
   ·subst hj
    have hy := same y h2
    subst hy
    rw [List.getElem?_set_self hil] at h3; cases h3
    exact ⟨w, .inr ⟨.inl hc, c, e1, hc'⟩, mv.vr hX r⟩
   ·obtain ⟨w', h5, h6⟩ := fr.vals y j v' h1 h2 (setv h3 hj) h4
    refine ⟨w', ?_, mv.vr hX h6⟩
    have hyx : y ≠ x := fun q => by rw [q, hi] at h2; cases h2; exact hj rfl
    rcases h5 with ⟨k, m', h7, h8⟩ | ⟨k, c', h7, h8⟩
    ·exact .inl ⟨k, m', ns h7, h8⟩
    ·exact .inr ⟨k, c', h7, cl (fun q => hyx (fw.inj y x c (q ▸ h7) e1)) h8⟩
theorem zPb {v : Fl} {fl : Flow} (hY : a ∈ ya env) (hX : a ∈ X) (L : Lk S X f U s.heap) (m : Mv a s s') (h : FlR S X f s'.heap env H sc v fl) : QF S X env H sc f s (.ok v U) fl s' :=
 ⟨v, U, [], rfl, .nil s, m.kp hY, by rw [List.append_nil]; exact m.lk hX L, by rw [List.append_nil]; exact h⟩
theorem zA3 {v : Fl} {fl : Flow} (L : Lk S X f U s.heap) (h : FlR S X f s.heap env H sc v fl) : QF S X env H sc f s (.ok v U) fl s :=
 ⟨v, U, [], rfl, .nil s, .refl f _ s, by rw [List.append_nil]; exact L, by rw [List.append_nil]; exact h⟩
theorem zKs {e : Expr} {t : Option Expr} {n : Nat} (h : isComp e = false) (h2 : ∀ el gs sc p, e ≠ .SetComp el gs sc p) (h3 : ∀ k v gs sc p, e ≠ .DictComp k v gs sc p) : swapsWith e t n env = pure false := by
 cases e <;> first | rfl | exact zF h.symm | exact absurd rfl (h2 _ _ _ _) | exact absurd rfl (h3 _ _ _ _ _)
theorem zOC {e : Expr} {c : CE} {pos : Pos} (h : EOk S F q d H sc e c) : SOk S F Fq q d H sc (.Return (some e) pos) (.ret c) := fun env J f X U s A st fw hne => by
 rw [zLB] at hne ⊢
 refine wpAny_Return_some ?_
 refine Sim.goS (H := H) (sc := sc) (h env J f X U s A st) hne (fun _ _ x => x) (fun _ _ x => x) fun va a' U1 g₁ s₁ hne hg k L ra hQ hE => hQ _ _ (zA3 L ⟨va, rfl, ra⟩)
theorem zL7 {pos : Pos} : SOk S F Fq q d H sc (.Pass pos) .pass := fun env J f X U s A st fw hne => by
 rw [zOb]
 exact wpAny_Pass (zA3 st.lk ⟨rfl, st.fr⟩)
theorem zN5 {e : Expr} {c : CE} {pos : Pos} (h : EOk S F q d H sc e c) (hs : ∀ env n t, swapsWith e t n env = pure false) : SOk S F Fq q d H sc (.Expr e pos) (.exp c) := fun env J f X U s A st fw hne => by
 rw [zK5] at hne ⊢
 refine wpAny_Expr_any ?_ (by simp [interactive, st.fr.kind]) (hs _ _ _)
 refine Sim.goS (H := H) (sc := sc) (h env J f X U s A st) hne (fun _ _ x => x) (fun _ _ x => x) fun va a' U1 g₁ s₁ hne hg k L ra hQ hE => hQ _ _ (zA3 L ⟨rfl, (st.keep hg k L).fr⟩)
theorem zJB {x : Str} {px pos : Pos} {e : Expr} {c : CE} (hx : yp H sc x = some i) (h : EOk S F q d H sc e c) (st : St S q d H sc env J f X U s A) (fw : FW env X) (hs : swapsWith e (some (.Name x px)) pos.line env = pure false) (hne : exS F Fq q (.asg i c) J U ≠ .stuck) :
  wpAny (model S.prog S.w) A (exec (.Assign [.Name x px] e pos) env) (QF S X env H sc f s (exS F Fq q (.asg i c) J U)) (ES S X (ya env) f false s (exS F Fq q (.asg i c) J U)) s := by
 rw [zK1] at hne ⊢
 refine wpAny_Assign_Name ?_ hs
 refine Sim.goS (H := H) (sc := sc) (h env J f X U s A st) hne (fun _ _ x => x) (fun _ _ x => x) fun va a' U1 g₁ s₁ hne hg k L ra hQ hE => ?_
 exact xi (st.keep hg k L).fr fw hx ra fun b s' hY hX m fr => hQ _ _ (zPb hY hX L m ⟨rfl, fr⟩)
theorem zN3 {x : Str} {px pos : Pos} {e : Expr} {c : CE} (hx : yp H sc x = some i) (h : EOk S F q d H sc e c) (hs : ∀ env n t, swapsWith e t n env = pure false) : SOk S F Fq q d H sc (.Assign [.Name x px] e pos) (.asg i c) := fun env J f X U s A st fw hne =>
 zJB hx h st fw (hs _ _ _) hne
theorem zPd {t : Expr} {c : CE} {a b : List Stmt} {ca cb : List CS} {pos : Pos} (ht : TOk S F q d H sc t c) (ha : LSOk S F Fq q d H sc a ca) (hb : LSOk S F Fq q d H sc b cb) : SOk S F Fq q d H sc (.If t a b pos) (.ite c ca cb) := fun env J f X U s A st fw hne => by
 have key : exS F Fq q (.ite c ca cb) J U = ((evE F q c J U).bind fun v U => R.lift U (truthy U v)).bind fun t U => if t then exL F Fq q ca J U else exL F Fq q cb J U := by rw [zEy, R.bind_assoc]
 rw [key] at hne ⊢
 refine wpAny_If ?_
 refine Sim.goS (H := H) (sc := sc) (ht env J f X U s A st) hne (fun _ _ x => x) (fun _ _ x => x) fun va a' U1 g₁ s₁ hne hg k L ra hQ hE => ?_
 have ra : va = a' := ra
 subst ra
 cases va with
 | true => exact wpAny_mono (ha env J _ X U1 s₁ A (st.keep hg k L) fw hne) hQ hE
 | false => exact wpAny_mono (hb env J _ X U1 s₁ A (st.keep hg k L) fw hne) hQ hE
theorem zOA : LSOk S F Fq q d H sc [] [] := fun env J f X U s A st fw hne => by
 rw [zOa]
 exact wpAny_execs_nil (zA3 st.lk ⟨rfl, st.fr⟩)
theorem zL3 {a : Stmt} {b : List Stmt} {ca : CS} {cb : List CS} (ha : SOk S F Fq q d H sc a ca) (hb : LSOk S F Fq q d H sc b cb) : LSOk S F Fq q d H sc (a :: b) (ca :: cb) := fun env J f X U s A st fw hne => by
 rw [zGw] at hne ⊢
 have hr : exS F Fq q ca J U ≠ .stuck := fun e => hne (by rw [e]; rfl)
 refine wpAny_execs_cons (wpAny_mono (ha env J f X U s A st fw hr) (fun fl s₁ h₁ => ?_) fun e s₁ h₁ => ?_)
 ·obtain ⟨x, U1, g, e, hg, k, L, p⟩ := h₁
  rw [e, R.bind_ok] at hne ⊢
  cases x with
  | next J' =>
   obtain ⟨rfl, fr⟩ := p
   have st₁ : St S q d H sc env J' (f ++ g) X U1 s₁ A := ⟨st.cx.keep k hg, fr, L⟩
   exact wpAny_mono (hb env J' _ X U1 s₁ A st₁ fw hne) (fun c s'' q => QF.lifts f g s s₁ _ c s'' hg k q) fun c s'' q => ES.lifts f g s s₁ _ c s'' hg k q
  | ret v =>
   obtain ⟨w, rfl, r⟩ := p
   exact ⟨.ret v, U1, g, rfl, hg, k, L, w, rfl, r⟩
 ·obtain ⟨c, U', g, ea, e1, e2, hgE, kE, LE, xE⟩ := h₁
  exact ⟨c, U', g, ea, e1, by rw [e2]; rfl, hgE, kE, LE, xE⟩
end
end Mine
end

section
namespace Mine
open PySem PyProof.Rows
section
variable {S : zO} {C : Ctx} {T : Nat -> Option Fn} {F Fq : Calls} {q : Bool} {d : Nat} {H : List Str} {sc : Scope}
variable {X X' Y Z : List Addr} {f g : List Loc} {U : Sto} {s s' : Shared} {A : Around} {E : Value -> Shared -> Prop} {I a : Addr} {its : Items} {i : Nat} {env : Env} {J : List V}
set_option maxRecDepth 100000 in
theorem zEd {l : Addr} {items : Array Value} {n : Nat} {k : Int} {t : Tok} {v : Value} {Q : Unit -> Shared -> Prop} (hl : IsL s.heap l items n) (h0 : 0 <= k) (hfit : k < 2 ^ 63) (hn : k < items.size)
  (hQ : Q () { s with heap := s.heap.update l (Obj.mapSeq (·.setIfInBounds k.toNat v)) }) : wpAny (model S.prog S.w) A (setItem (.ref l) (.int k t) v) Q E s := by
 have il := IsL.isList hl
 unfold setItem
 try with_reducible refine wpAny_holding ?_
 first | refine wpAny_bind (wpAny_pure ?_) | skip
 refine wpAny_bind (wpAny_sequenceKey il.typeIs (by decide) ?_)
 refine wpAny_bind (wpAny_callSpecial?_slot (name := Str.ofString "__setitem__") il.typeIs slot_list_setitem
  (wpAny_call_entry slot_list_setitem il.typeIs entry_list_setitem ?_ (args_list_setitem _ _ _)))
 show wpAny _ _ (Builtin.List.listSubscript? (.int k t) >>= _) _ _ s
 refine wpAny_bind (wpAny_listSubscript_int (fitsIndex_of h0 hfit) ?_)
 clear hfit
 obtain ⟨j, rfl⟩ := Int.eq_ofNat_of_zero_le h0
 have hj : j < items.size := by omega
 have hx' : items[j]? = some items[j] := Array.getElem?_eq_getElem hj
 show wpAny _ _ ((seqItemAt l j >>= fun r => pure (r.map (j, ·))) >>= _) _ _ s
 refine wpAny_bind (wpAny_bind (wpAny_seqItemAt hl rfl (wpAny_pure ?_)))
 rw [hx']
 show wpAny _ _ (setSeqItemAt l j v >>= _) _ _ s
 refine wpAny_bind (wpAny_setSeqItemAt hl rfl ?_)
 first
  | exact wpAny_bind (wpAny_pure (wpAny_pure ⟨.none, rfl, wpAny_pure hQ⟩))
  | exact wpAny_pure ⟨.none, rfl, wpAny_pure hQ⟩
inductive zMy (U : Sto) (o i : V) : Prop
 | list (n : Nat) (k : Int) (xs : List V) (eo : o = .ref n) (ei : i = .int k) (hU : U[n]? = some (.list xs)) (hk : 0 <= k /\ k.toNat < xs.length)
 | dict (n : Nat) (k : Int) (es : List (Int × V)) (eo : o = .ref n) (ei : i = .int k) (hU : U[n]? = some (.dict es)) (hl : es.length < LIM)
theorem zOJ {U : Sto} {o i v : V} {γ : Type} {rk : Unit -> Sto -> R γ} (h : (xI U o i v).bind rk ≠ .stuck) : zMy U o i := by
 cases o with
 | ref n =>
  cases i with
  | int k =>
   have h : (zAg U n k v U[n]?).bind rk ≠ .stuck := h
   cases hU : U[n]? with
   | none => rw [hU] at h; exact absurd rfl h
   | some ob =>
    rw [hU] at h
    cases ob with
    | list xs =>
     by_cases hk : 0 <= k /\ k.toNat < xs.length
     ·exact .list n k xs rfl rfl hU hk
     ·exact absurd (by show R.bind (if 0 <= k /\ k.toNat < xs.length then _ else _) _ = _; rw [if_neg hk]; rfl) h
    | dict es =>
     by_cases hl : es.length < LIM
     ·exact .dict n k es rfl rfl hU hl
     ·exact absurd (by show R.bind (if es.length < LIM then _ else _) _ = _; rw [if_neg hl]; rfl) h
    | inst _ => exact absurd rfl h
  | _ => exact absurd rfl h
 | _ => exact absurd rfl h
theorem zLi {j : Nat} (h : j < LIM) : (j : Int) < 2 ^ 63 := by have hL : LIM = 1048576 := rfl; omega
theorem zFY {o ix e : Expr} {a b c : CE} {p' pos : Pos} (ho : EOk S F q d H sc o a) (hi : EOk S F q d H sc ix b) (h : EOk S F q d H sc e c) (hs : ∀ env n t, swapsWith e t n env = pure false) : SOk S F Fq q d H sc (.Assign [.Subscript o ix p'] e pos) (.setItem a b c) := fun env J f X U s A st fw hne => by
 rw [zCw] at hne ⊢
 refine wpAny_Assign_Subscript ?_ (hs _ _ _)
 refine Sim.goS (H := H) (sc := sc) (h env J f X U s A st) hne (fun _ _ x => x) (fun _ _ x => x) fun vv v' U1 g₁ s₁ hne hg k L rv hQ hE => ?_
 have st₁ := st.keep hg k L
 refine Sim.goS (H := H) (sc := sc) (ho env J _ X U1 s₁ A st₁) hne hQ hE fun vo o' U2 g₂ s₂ hne hg₂ k₂ L₂ ro hQ hE => ?_
 have st₂ := st₁.keep hg₂ k₂ L₂
 have rv2 := VR.keepK k₂ hg₂ (fun _ h => nomatch h) rv
 refine Sim.goS (H := H) (sc := sc) (hi env J _ X U2 s₂ A st₂) hne hQ hE fun vi i' U3 g₃ s₃ hne hg₃ k₃ L₃ ri hQ hE => ?_
 have st₃ := st₂.keep hg₃ k₃ L₃
 have rv3 := VR.keepK k₃ hg₃ (fun _ h => nomatch h) rv2
 have ro3 := VR.keepK k₃ hg₃ (fun _ h => nomatch h) ro
 cases zOJ hne with
 | list n k' xs eo ei hU hk =>
  subst eo
  subst ei
  have hd : xI U3 (.ref n) (.int k') v' = .ok () (U3.set n (.list (xs.set k'.toNat v'))) := by show zAg U3 n k' v' U3[n]? = _; rw [hU]; exact if_pos hk
  rw [hd] at hQ
  obtain ⟨ax, vs, kk, rfl, hf, il, rs, hlen⟩ := wy L₃ ro3 hU
  obtain ⟨t, rfl⟩ := zy ri
  obtain ⟨j, rfl⟩ := Int.eq_ofNat_of_zero_le hk.1
  have hj : j < vs.size := by rw [zY rs]; exact hk.2
  have hfit : (j : Int) < 2 ^ 63 := zLi (Nat.lt_of_lt_of_le (zY rs ▸ hj) hlen)
  obtain ⟨L4, k4⟩ := zBm (fn := fun xs => xs.setIfInBounds j vv) (xs := xs.set j v') L₃ hf il (by rw [Array.toList_setIfInBounds]; exact zFv rs rv3) (by rw [List.length_set]; exact hlen)
  refine zEd il (Int.natCast_nonneg j) hfit (Int.ofNat_lt.mpr hj) (hQ _ _ ⟨.next J, _, [], rfl, .nil _, k4.mono (fun a h => nomatch h), by rw [List.append_nil]; exact L4, rfl, ?_⟩)
  rw [List.append_nil]
  have := st₃.fr.keep (g := []) L₃ k4 (.nil _)
  rwa [List.append_nil] at this
 | dict n k' es eo ei hU hl =>
  subst eo
  subst ei
  have hd : xI U3 (.ref n) (.int k') v' = .ok () (U3.set n (.dict (xy es k' v'))) := by show zAg U3 n k' v' U3[n]? = _; rw [hU]; exact if_pos hl
  rw [hd] at hQ
  refine zEe L₃ ro3 ri hU hl rv3 fun h' tk L4 k4 => hQ _ _ ⟨.next J, _, [], rfl, .nil _, k4 _, by rw [List.append_nil]; exact L4, rfl, ?_⟩
  exact st₃.fr.keep (g := []) L₃ (k4 []) (.nil _)
theorem FR.drop {h h' : Heap} (fr : FR S X f h env H sc J) (fw : FW env X') (hX : ∀ a ∈ X', a ∈ X /\ a ∉ Z) (hZ : ∀ a ∈ Z, a ∈ X) (k : ∀ b o, b ∉ Z -> h.get? b = some o -> h'.get? b = some o) : FR S X' f h' env H sc J := by
 have ns : ∀ {b : Addr} {m' : Str -> Option Value}, b ∈ X' -> h.Ns b m' -> h'.Ns b m' := fun hb x => by
  obtain ⟨o, es, ep, ho, r⟩ := x
  exact ⟨o, es, ep, k _ _ (hX _ hb).2 ho, r⟩
 have cl : ∀ {b : Addr} {m' : Option Value}, b ∈ X' -> h.IsCell b m' -> h'.IsCell b m' := fun hb x => by
  obtain ⟨o, ho, r⟩ := x
  exact ⟨o, k _ _ (hX _ hb).2 ho, r⟩
 refine ⟨fr.kind, fr.glob, fr.blt, fr.names, ⟨fw.loc, let ⟨m, h⟩ := fr.loc.2; ⟨m, ns fw.loc h⟩⟩, fun x hx => ?_, fun x i v h1 h2 h3 h4 => ?_, fr.len⟩
 ·obtain ⟨c, o, e, _, h⟩ := fr.cells x hx
  exact ⟨c, o, e, fw.cellX x c e, cl (fw.cellX x c e) h⟩
 ·obtain ⟨w, h5, h6⟩ := fr.vals x i v h1 h2 h3 h4
  refine ⟨w, ?_, h6.drop (fun a ha => (hX a ha).1) hZ k⟩
  rcases h5 with ⟨kk, m', h7, h8⟩ | ⟨kk, c, h7, h8⟩
  ·exact .inl ⟨kk, m', ns fw.loc h7, h8⟩
  ·exact .inr ⟨kk, c, h7, cl (fw.cellX x c h7) h8⟩
theorem FW.more (fw : FW env X) : FW env (a :: X) := ⟨List.mem_cons_of_mem _ fw.loc, fun p hp => List.mem_cons_of_mem _ (fw.mem p hp), fw.inj⟩
theorem zEU {scope : Scope} {x y : Str} {px py pos spos : Pos} {elt iter : Expr} {ifs : List Expr} {ce c' : CE} {cond : Option CE} {k : SK} {cs : List CE} (hy : yp H sc y = some i) (ok : vF H sc scope x) (hsrc : zAj S F q d H sc iter k cs)
  (hcond : (ifs = [] /\ cond = none) \/ ∃ e c, ifs = [e] /\ cond = some c /\ TOk S F q d (H ++ [x]) scope e c) (helt : EOk S F q d (H ++ [x]) scope elt ce) (hc' : c' = .comp ce k cs cond \/ c' = .trk (.comp ce k cs cond)) :
  SOk S F Fq q d H sc (.Assign [.Name y py] (.ListComp elt [⟨.Name x px, iter, ifs, 0⟩] scope pos) spos) (.asg i c') := fun env J f X U s A st fw hne => by
 have hn := zGZ (px := px) (pos := pos) ok hsrc hcond helt
 have he : EOk S F q d H sc (.ListComp elt [⟨.Name x px, iter, ifs, 0⟩] scope pos) c' := by
  rcases hc' with rfl | rfl
  ·exact hn.eok
  ·exact hn.trk
 by_cases hsw : (env.blockKind == .function && env.kindOf y == some .local && py.line == pos.line && !(scope.names.any fun (n, k) => n == y && (k == .local || k == .cell))) = true
 ·have hs : swapsWith (.ListComp elt [⟨.Name x px, iter, ifs, 0⟩] scope pos) (some (.Name y py)) spos.line env = pure true := by
   show pure (env.blockKind == .function && env.kindOf y == some .local && py.line == pos.line && !(scope.names.any fun (n, k) => n == y && (k == .local || k == .cell))) = _
   rw [hsw]
  rw [exec_Assign_Name_used _ _ _ _ hs]
  rw [zK1] at hne ⊢
  have hq : q = false := by
   cases q with
   | false => rfl
   | true => rcases hc' with rfl | rfl <;> exact absurd rfl hne
  have hval : ∃ tk : V -> Sto -> R V, evE F q c' J U = (((evL F q cs J U).bind fun vs U => R.lift U (zT U k vs)).bind fun its U => (zn its (yK F q ce cond J) [] U).bind fun acc U => .ok (.lst acc) U).bind tk /\
    ∀ {X : List Addr} {s : Shared} {r : R V} {v : Value} {s' : Shared}, (r.bind tk) ≠ .stuck -> QN S X [] f s r v s' -> QS S X [] f (PV S X) s (r.bind tk) v s' := by
   rcases hc' with rfl | rfl
   ·exact ⟨fun v U => .ok v U, by rw [kx hq]; generalize R.bind _ _ = r; cases r <;> rfl, fun {X s r v s'} _ h => by
     have : (r.bind fun v U => R.ok v U) = r := by cases r <;> rfl
     rw [this]; exact h.qs⟩
   ·exact ⟨fun v U => zDy U v, by rw [kq, kx hq], fun {X s r v s'} hne h => h.trk hne⟩
  obtain ⟨tk, e0, htk⟩ := hval
  rw [e0] at hne ⊢
  obtain ⟨cl, hclos, hcl⟩ := st.fr.closure ok
  refine wpAny_bind (wpAny_standAt (wpAny_bind ?_))
  show wpAny _ A (do let _ <- comprehension (.ListComp elt [⟨.Name x px, iter, ifs, 0⟩] scope pos) scope env _ (newList []) false (eval iter env) (some (assign (.Name y py) env))) _ _ s
  refine wpAny_bind (wpAny_mono (wpAny_comprehension_free (Q := fun _ s' => QF S X env H sc f s _ .next s') (g := ⟨.Name x px, iter, ifs, 0⟩) (gs := []) rfl (hsrc.1 env) hclos ok.kind (fun p hp e => (ok.loc p hp e).2) ?_) (fun _ s' hq => wpAny_pure (wpAny_pure hq)) fun _ _ e => e)
  have hr : ((evL F q cs J U).bind fun vs U => R.lift U (zT U k vs)) ≠ .stuck := fun e => hne (by rw [e]; rfl)
  refine wpAny_mono (hsrc.2 env J f X U s A st hr) (fun xv s₁ h₁ => wpAny_mono h₁ (fun it s₂ h₂ => ?_) fun e s' h => ?_) fun e s' h => ?_
  ·obtain ⟨its, U1, g, I, e1, rfl, hI, hIX, hg, kk, L, x0⟩ := h₂
   rw [e1, R.bind_ok] at hne ⊢
   have hne2 : zn its (yK F q ce cond J) [] U1 ≠ .stuck := fun e => hne (by rw [e]; rfl)
   refine zBK st (st.cx.hand hq) ok hcl hcond helt hI hg kk L x0 hne2 (fun N D acc U' g' m ys n s' hN hD hND e2 hg' k' L' hns il vs hlen => ?_)
   rw [e2, R.bind_ok] at hne ⊢
   have hNX : N ∉ X := (st.lk.new hN).2
   have hDX : D ∉ X := (st.lk.new hD).2
   have qn : QN S (N :: X) [] f s (.ok (.lst acc) U') (.ref D) s' := by
    have hsw2 : ∀ a, a ∈ D :: N :: X -> a ∈ N :: D :: X := fun a ha => by simp at ha ⊢; rcases ha with h | h | h <;> simp [h]
    have L2 : Lk S (D :: N :: X) (f ++ g') U' s'.heap := L'.less hsw2
    have vs2 := VRs.less hsw2 vs
    refine ⟨.lst acc, U', g', rfl, hg', k', L2.less fun a ha => List.mem_cons_of_mem _ ha, ?_, fun xs hxs => ?_⟩
    ·exact ⟨D, ys, n, rfl, ⟨(L2.hid D List.mem_cons_self).2.1, fun h => (List.mem_cons.mp h).elim (fun q => hND q.symm) hDX⟩, il, vs2.less fun a ha => List.mem_cons_of_mem _ ha, hlen⟩
    ·cases hxs
     exact ⟨D, ys, n, rfl, hD, (fun h => (List.mem_cons.mp h).elim (fun q => hND q.symm) hDX), L2, il, vs2, hlen⟩
   have hne3 : ((R.ok (.lst acc) U').bind tk) ≠ .stuck := fun e => hne (by rw [e]; rfl)
   obtain ⟨v3, σ3, g3, e3, hg3, k3, L3, r3⟩ := htk hne3 qn
   rw [e3, R.bind_ok]
   have fr3 : FR S (N :: X) (f ++ g3) s'.heap env H sc J := st.fr.later st.lk k3 hg3 (fun a ha => (List.mem_cons.mp ha).elim (fun h => .inr (h ▸ hN)) .inl) fun a ha => List.mem_cons_of_mem _ ha
   refine wpAny_assign_Name (xi fr3 fw.more hy r3 fun b s4 hY hX m4 fr4 => ?_)
   have hbN : b ≠ N := fun q => by
    subst q
    rcases List.mem_cons.mp hY with h | h
    ·exact hNX (h ▸ fw.loc)
    ·obtain ⟨p, hp, rfl⟩ := List.mem_map.mp h
     exact hNX (fw.mem p hp)
   obtain ⟨oN, esN, epN, eN, rN⟩ := hns
   refine ⟨m, ⟨oN, esN, epN, m4.keep N oN (Ne.symm hbN) eN, rN⟩, fun h' hs4 => ?_⟩
   have hkk : ∀ b o, b ∉ [N] -> s4.heap.get? b = some o -> h'.get? b = some o := fun b o hb e => (hs4.2 b (fun q => hb (q ▸ List.mem_singleton.mpr rfl))).trans e
   have hZX : ∀ a ∈ X, a ∈ N :: X /\ a ∉ [N] := fun a ha => ⟨List.mem_cons_of_mem _ ha, fun h => hNX (List.mem_singleton.mp h ▸ ha)⟩
   have hZ : ∀ a ∈ [N], a ∈ N :: X := fun a ha => List.mem_singleton.mp ha ▸ List.mem_cons_self
   have ky : Kp f (ya env) s s4 := (k3.mono fun a h => nomatch h).trans hg3 (m4.kp hY)
   exact ⟨.next (J.set i v3), σ3, g3, rfl, hg3, ky.ends (Z := [N]) rfl hkk (fun b hb => List.mem_singleton.mp hb ▸ hN), (m4.lk hX L3).drop hZX hZ hkk, rfl, fr4.drop fw hZX hZ hkk⟩
  ·obtain ⟨c, U', g, ea, e1, e2, hg, kk, L, r⟩ := h
   exact ⟨c, U', g, ea, e1, by rw [e2]; rfl, hg, (kk.mono fun a h => nomatch h), L, r⟩
  ·obtain ⟨c, U', g, ea, e1, e2, hg, kk, L, r⟩ := h
   exact ⟨c, U', g, ea, e1, by rw [e2]; rfl, hg, (kk.mono fun a h => nomatch h), L, r⟩
 ·refine zJB hy he st fw ?_ hne
  show pure (env.blockKind == .function && env.kindOf y == some .local && py.line == pos.line && !(scope.names.any fun (n, k) => n == y && (k == .local || k == .cell))) = _
  rw [Bool.eq_false_iff.mpr hsw]
end
end Mine
end

section
namespace Mine
open PySem PyProof.Rows
section
variable {S : zO} {C : Ctx} {T : Nat -> Option Fn} {F Fq : Calls} {q : Bool} {d : Nat} {H : List Str} {sc : Scope}
variable {X X' Y Z : List Addr} {f g : List Loc} {U : Sto} {s s' : Shared} {A : Around} {E : Value -> Shared -> Prop} {I a : Addr} {its : Items} {i : Nat} {env : Env} {J : List V}
theorem LSOk.calm {ss : List Stmt} {cs : List CS} {γ : Type} {rk : Fl -> Sto -> R γ} (h : LSOk S F Fq q d H sc ss cs) (st : St S q d H sc env J f X U s A) (fw : FW env X) (hne : (exL F Fq q cs J U).calm.bind rk ≠ .stuck) :
  ∃ x U', (exL F Fq q cs J U).calm.bind rk = rk x U' /\ rk x U' ≠ .stuck /\ ∀ E, wpAny (model S.prog S.w) A (execs ss env) (fun fl s' => ∃ g, Fresh g s /\ Kp f (ya env) s s' /\ Lk S X (f ++ g) U' s'.heap /\ FlR S X (f ++ g) s'.heap env H sc x fl) E s := by
 have hs := h env J f X U s A st fw
 cases hr : exL F Fq q cs J U with
 | ok x U' =>
  rw [hr] at hne hs
  refine ⟨x, U', rfl, hne, fun E => wpAny_mono (hs (by simp)) (fun a s' q => ?_) fun e s' q => ?_⟩
  ·obtain ⟨x', U'', g, e, hg, k, L, p⟩ := q
   cases e
   exact ⟨g, hg, k, L, p⟩
  ·obtain ⟨_, _, _, _, _, e, _⟩ := q; cases e
 | exc _ _ => rw [hr] at hne; exact absurd rfl hne
 | stuck => rw [hr] at hne; exact absurd rfl hne
structure zMK (S : zO) (s : Shared) (X : List Addr) (f : List Loc) (I : Addr) (env : Env) (H : List Str) (sc : Scope) (its : Items) (i : Nat) (J : List V) (U' : Sto) (g : List Loc) (s' : Shared) : Prop where
 fresh : Fresh g s
 kp : Kp f (ya env) s s'
 lk : Lk S (I :: X) (f ++ g) U' s'.heap
 it : ItAt S (I :: X) (f ++ g) s'.heap I its i
 fr : FR S (I :: X) (f ++ g) s'.heap env H sc J
theorem zN1 (fw : FW env X) (hI : I ∉ X) : I ∉ ya env := fun h => by
 rcases List.mem_cons.mp h with h | h
 ·exact hI (h ▸ fw.loc)
 ·obtain ⟨p, hp, rfl⟩ := List.mem_map.mp h
  exact hI (fw.mem p hp)
theorem ItAt.keepY (k : Kp f Y s s') (hg : Fresh g s) (hI : I ∈ X) (hXf : ∀ a ∈ X, a ∉ addrs f) (hY : ∀ a ∈ Y, a ∈ X) (hIY : I ∉ Y) (x : ItAt S X f s.heap I its i) : ItAt S X (f ++ g) s'.heap I its i :=
 ItAt.keep (f := f) (f' := f ++ g) (X := X) (X' := X) (h := s.heap) (fun _ _ e => List.getElem?_append_left (List.getElem?_eq_some_iff.mp e).1 ▸ e)
  (fun a o ho h1 h2 => ⟨⟨fun h => (mem_addrs_append.mp h).elim h1 (yH hg ho), h2⟩, k.kept a o ho h1 fun h => h2 (hY a h)⟩) (fun o ho => k.kept I o ho (hXf I hI) hIY) x
theorem zOc (fw : FW env X) : ∀ a ∈ ya env, a ∈ X := fun a h => by
 rcases List.mem_cons.mp h with h | h
 ·exact h ▸ fw.loc
 ·obtain ⟨p, hp, rfl⟩ := List.mem_map.mp h
  exact fw.mem p hp
theorem zN6 {x : Str} {px pos : Pos} {iter : Expr} {body : List Stmt} {cb : List CS} {k : SK} {cs : List CE} (hx : yp H sc x = some i) (hsrc : zAj S F q d H sc iter k cs) (hb : LSOk S F Fq q d H sc body cb) :
  SOk S F Fq q d H sc (.For (.Name x px) iter body [] pos) (.for i k cs cb) := fun env J f X U s A st fw hne => by
 have hq : q = false := by
  cases q with
  | false => rfl
  | true => rw [zMq] at hne; exact absurd rfl hne
 have hh := st.cx.hand hq
 have key : exS F Fq q (.for i k cs cb) J U = ((evL F q cs J U).bind fun vs U => R.lift U (zT U k vs)).bind fun it U => yZ it (fun x J U => exL F Fq q cb (J.set i x) U) J U := by rw [zMq, hq, if_neg (by simp), R.bind_assoc]
 rw [key] at hne ⊢
 have hr : ((evL F q cs J U).bind fun vs U => R.lift U (zT U k vs)) ≠ .stuck := fun e => hne (by rw [e]; rfl)
 refine wpAny_For ?_ (hsrc.1 env)
 refine wpAny_mono (hsrc.2 env J f X U s A st hr) (fun xv s₁ h₁ => wpAny_mono h₁ (fun it s₂ h₂ => ?_) fun e s' h => ?_) fun e s' h => ?_
 rotate_left
 ·obtain ⟨c, U', g, ea, e1, e2, hg, kk, L, r⟩ := h
  exact ⟨c, U', g, ea, e1, by rw [e2]; rfl, hg, (kk.mono fun a h => nomatch h), L, r⟩
 ·obtain ⟨c, U', g, ea, e1, e2, hg, kk, L, r⟩ := h
  exact ⟨c, U', g, ea, e1, by rw [e2]; rfl, hg, (kk.mono fun a h => nomatch h), L, r⟩
 obtain ⟨its, U1, g, I, e1, rfl, hI, hIX, hg, kk, L, x0⟩ := h₂
 rw [e1, R.bind_ok] at hne ⊢
 have hIya := zN1 fw hIX
 have hIin : I ∈ I :: X := List.mem_cons_self
 have fw' : FW env (I :: X) := fw.more
 have hZX : ∀ a ∈ X, a ∈ I :: X /\ a ∉ [I] := fun a ha => ⟨List.mem_cons_of_mem _ ha, fun h => hIX (List.mem_singleton.mp h ▸ ha)⟩
 have hZ : ∀ a ∈ [I], a ∈ I :: X := fun a ha => List.mem_singleton.mp ha ▸ List.mem_cons_self
 have fr0 : FR S (I :: X) (f ++ g) s₂.heap env H sc J := st.fr.later st.lk kk hg (fun a ha => (List.mem_cons.mp ha).elim (fun h => .inr (h ▸ hI)) .inl) fun a ha => List.mem_cons_of_mem _ ha
 have t0 : zMK S s X f I env H sc its 0 J U1 g s₂ := ⟨hg, (kk.mono fun a h => nomatch h), L, x0, fr0⟩
 unfold yZ at hne ⊢
 generalize htot : yy its (fun x J U => exL F Fq q cb (J.set i x) U) (zAF U1 its) 0 J U1 = total at hne ⊢
 refine codeAny_forLoop (fun n s' => ∃ j J' U' g, yy its (fun x J U => exL F Fq q cb (J.set i x) U) n j J' U' = total /\ zMK S s X f I env H sc its j J' U' g s') ?_ (zAF U1 its) ⟨0, J, U1, g, htot, t0⟩
 rintro n s' ⟨j, J', U', g', hf, t⟩
 cases n with
 | zero => rw [zFF] at hf; exact absurd hf.symm hne
 | succ n =>
 rw [zFE] at hf
 cases hnx : yA U' its j with
 | none => rw [hnx] at hf; exact absurd hf.symm hne
 | some o =>
 rw [hnx] at hf
 cases o with
 | none =>
  have hf : R.ok (Fl.next J') U' = total := hf
  refine wpAny_mono (zES hh t.lk t.it hnx) (fun r s₃ h₃ => ?_) fun _ _ x => x
  obtain ⟨rfl, hr3, hk3⟩ := h₃
  have hkk : ∀ b o, b ∉ [I] -> s'.heap.get? b = some o -> s₃.heap.get? b = some o := fun b o hb e => hk3 b o (fun q => hb (q ▸ List.mem_singleton.mpr rfl)) e
  refine wpAny_execs_nil ?_
  exact ⟨.next J', U', g', hf.symm, t.fresh, t.kp.ends (Z := [I]) hr3 hkk (fun b hb => List.mem_singleton.mp hb ▸ hI), t.lk.drop hZX hZ hkk, rfl, t.fr.drop fw hZX hZ hkk⟩
 | some x' =>
 have hf : ((exL F Fq q cb (J'.set i x') U').bind fun fl U => match fl with | .next J => yy its (fun x J U => exL F Fq q cb (J.set i x) U) n (j + 1) J U | .ret v => .ok (.ret v) U) = total := hf
 refine wpAny_mono (zCB hIin t.lk t.it hnx) (fun r s₃ h₃ => ?_) fun _ _ x => x
 obtain ⟨v, rfl, m1, it1, rv⟩ := h₃
 have hlI : env.locals ≠ I := fun h => hIX (h ▸ fw.loc)
 have hcI : ∀ x c, env.cells.lookup x = some c -> c ≠ I := fun x c e h => hIX (h ▸ fw.cellX x c e)
 have fr1 := t.fr.mv m1 hIin hlI hcI
 refine wpAny_assign_Name (xi fr1 fw' hx rv fun b s4 hY hX m4 fr4 => ?_)
 have hbI : I ≠ b := fun h => hIya (h ▸ hY)
 have lk4 := m4.lk hX (m1.lk hIin t.lk)
 have it4 := it1.mv m4 hX hbI
 have kp3 : Kp f (ya env) s s₃ := t.kp.mv m1 hI
 have kp4 : Kp f (ya env) s s4 := kp3.trans t.fresh (m4.kp hY)
 have st4 : St S q d H sc env (J'.set i x') (f ++ g') (I :: X) U' s4 A := ⟨st.cx.keep kp4 t.fresh, fr4, lk4⟩
 have hr5 : exL F Fq q cb (J'.set i x') U' ≠ .stuck := fun e => hne (by rw [<- hf, e]; rfl)
 refine wpAny_mono (hb env _ _ _ U' s4 A st4 fw' hr5) (fun fl s6 h6 => ?_) fun e s6 h6 => ?_
 rotate_left
 ·obtain ⟨c, U5, g6, ea, rfl, e5, hg6, k6, lk6, x6⟩ := h6
  rw [e5] at hf
  have hf : R.exc c U5 = total := hf
  subst hf
  have kp6 : Kp f (ya env) s s6 := kp4.trans t.fresh k6
  have fg6 : Fresh (g' ++ g6) s := t.fresh.trans kp4.live hg6
  obtain ⟨en, l, h1, h2, h3⟩ := (st4.cx.keep k6 hg6).frs
  obtain ⟨-, L1, -, -, -, h4, -⟩ := h3 en List.mem_cons_self
  rw [List.append_assoc] at h3 x6 lk6
  have xs : ExcR S X (f ++ (g' ++ g6)) U5 s6.heap s.heap ea c := (x6.back fun a h => zw kp4.live h).less fun a ha => List.mem_cons_of_mem _ ha
  have hX : ∀ a ∈ X, ∃ o, s.heap.get? a = some o := fun a ha => (st.lk.hid a ha).2.2
  show wpAny _ A (noteFrame (.ref ea) env) _ _ s6
  rw [wu (env' := en) h2]
  refine zGY h1 h3 h4 xs hX (fun _ h => zw kp6.live h) fun h₁ hs1 oe vs T hf1 N1 x1 p1 p2 p3 => ?_
  show wpAny _ A (do
   if (<- field (.ref ea) 1) == .none then unsupported "frame.own-activation:exception-without-traceback"
   setFlight (.ref ea) env.frame) _ _ _
  refine wpAny_bind (wpAny_field p1 p2 p3 ?_)
  rw [if_neg (show ¬ ((Value.ref T == Value.none) = true) from by simp)]
  exact xt (s := { s6 with heap := h₁ }) x1 hX fun h₂ hs₂ hf2 N2 L2 x2 => ⟨c, U5, g' ++ g6, ea, rfl, rfl, fg6, N2.kp (N1.kp kp6 hf1) hf2, L2, x2⟩
 obtain ⟨fl5, U5, g6, e5, hg6, k6, lk6, p6⟩ := h6
 rw [e5] at hf
 have hXf : ∀ a ∈ I :: X, a ∉ addrs (f ++ g') := fun a ha => (lk4.hid a ha).2.1
 have it6 := it4.keepY k6 hg6 hIin hXf (zOc fw') hIya
 have kp6 : Kp f (ya env) s s6 := kp4.trans t.fresh k6
 have fg6 : Fresh (g' ++ g6) s := t.fresh.trans kp4.live hg6
 rw [List.append_assoc] at lk6 it6 p6
 cases fl5 with
 | next J6 =>
  obtain ⟨rfl, fr6⟩ := p6
  exact ⟨n, Nat.lt_succ_self n, j + 1, J6, U5, g' ++ g6, hf, fg6, kp6, lk6, it6, fr6⟩
 | ret v6 =>
  obtain ⟨w6, rfl, r6⟩ := p6
  have hf : R.ok (Fl.ret v6) U5 = total := hf
  exact ⟨.ret v6, U5, g' ++ g6, hf.symm, fg6, kp6, lk6.drop (Z := []) (fun a ha => ⟨List.mem_cons_of_mem _ ha, fun h => nomatch h⟩) (fun a h => nomatch h) (fun _ _ _ e => e), w6, rfl, r6.less fun a ha => List.mem_cons_of_mem _ ha⟩
theorem zKe {t : Expr} {c : CE} {body : List Stmt} {cb : List CS} {pos : Pos} (ht : TOk S F q d H sc t c) (hb : LSOk S F Fq q d H sc body cb) : SOk S F Fq q d H sc (.While t body [] pos) (.while c cb) := fun env J f X U s A st fw hne => by
 have hq : q = false := by
  cases q with
  | false => rfl
  | true => rw [zDb] at hne; exact absurd rfl hne
 have key : exS F Fq q (.while c cb) J U = wK (fun J U => ((evE F q c J U).bind fun v U => R.lift U (truthy U v)).calm) (fun J U => (exL F Fq q cb J U).calm) zBn J U := by rw [zDb, hq, if_neg (by simp)]
 rw [key] at hne ⊢
 refine wpAny_While ?_
 generalize htot : wK (fun J U => ((evE F q c J U).bind fun v U => R.lift U (truthy U v)).calm) (fun J U => (exL F Fq q cb J U).calm) zBn J U = total at hne ⊢
 refine codeAny_whileLoop (fun n s' => ∃ J' U' g, wK (fun J U => ((evE F q c J U).bind fun v U => R.lift U (truthy U v)).calm) (fun J U => (exL F Fq q cb J U).calm) n J' U' = total /\ Fresh g s /\ Kp f (ya env) s s' /\ Lk S X (f ++ g) U' s'.heap /\ FR S X (f ++ g) s'.heap env H sc J') ?_ zBn
  ⟨J, U, [], htot, .nil s, .refl f _ s, by rw [List.append_nil]; exact st.lk, by rw [List.append_nil]; exact st.fr⟩
 rintro n s' ⟨J', U', g', hf, hg, kp, lk, fr⟩
 cases n with
 | zero => rw [zEw] at hf; exact absurd hf.symm hne
 | succ n =>
 rw [zEv] at hf
 have st1 : St S q d H sc env J' (f ++ g') X U' s' A := ⟨st.cx.keep kp hg, fr, lk⟩
 obtain ⟨b, U2, _, e2, hne2, w2⟩ := Sim.calm (ht env J' _ X U' s' A st1) (by rw [hf]; exact hne)
 rw [e2] at hf
 refine wpAny_mono (w2 _) (fun b' s₃ h₃ => ?_) fun _ _ x => x
 obtain ⟨g3, hg3, k3, lk3, hbb⟩ := h₃
 have hbb : b' = b := hbb
 subst hbb
 have st3 := st1.keep hg3 k3 lk3
 have kp3 : Kp f (ya env) s s₃ := kp.trans hg (k3.mono fun a h => nomatch h)
 have fg3 : Fresh (g' ++ g3) s := hg.trans kp.live hg3
 cases b' with
 | false =>
  have hf : R.ok (Fl.next J') U2 = total := hf
  refine wpAny_execs_nil ⟨.next J', U2, g' ++ g3, hf.symm, fg3, kp3, by rw [<- List.append_assoc]; exact lk3, rfl, by rw [<- List.append_assoc]; exact st3.fr⟩
 | true =>
  have hf : ((exL F Fq q cb J' U2).calm.bind fun fl U => match fl with | .next J => wK (fun J U => ((evE F q c J U).bind fun v U => R.lift U (truthy U v)).calm) (fun J U => (exL F Fq q cb J U).calm) n J U | .ret v => .ok (.ret v) U) = total := hf
  obtain ⟨fl5, U5, e5, hne5, w5⟩ := hb.calm st3 fw (by rw [hf]; exact hne)
  rw [e5] at hf
  show wpAny _ _ _ _ _ _
  refine wpAny_mono (w5 _) (fun fl s6 h6 => ?_) fun _ _ x => x
  obtain ⟨g6, hg6, k6, lk6, p6⟩ := h6
  have fg6 : Fresh ((g' ++ g3) ++ g6) s := fg3.trans kp3.live hg6
  have kp6 : Kp f (ya env) s s6 := kp3.trans fg3 (by rw [<- List.append_assoc]; exact k6)
  have ea : f ++ g' ++ g3 ++ g6 = f ++ (g' ++ g3 ++ g6) := by simp [List.append_assoc]
  rw [ea] at lk6 p6
  cases fl5 with
  | next J6 =>
   obtain ⟨rfl, fr6⟩ := p6
   exact ⟨n, Nat.lt_succ_self n, J6, U5, _, hf, fg6, kp6, lk6, fr6⟩
  | ret v6 =>
   obtain ⟨w6, rfl, r6⟩ := p6
   have hf : R.ok (Fl.ret v6) U5 = total := hf
   exact ⟨.ret v6, U5, _, hf.symm, fg6, kp6, lk6, w6, rfl, r6⟩
end
end Mine
end

section
namespace Mine
open PySem PyProof.Rows
section
variable {S : zO} {C : Ctx} {T : Nat -> Option Fn} {F Fq : Calls} {q : Bool} {d : Nat} {H : List Str} {sc : Scope}
variable {X X' Y Z : List Addr} {f g : List Loc} {U : Sto} {s s' : Shared} {A : Around} {E : Value -> Shared -> Prop} {I a : Addr} {its : Items} {i : Nat} {env : Env} {J : List V}
end
end Mine
end

section
namespace Mine
open PySem PyProof.Rows
section
variable {S : zO} {C : Ctx} {T : Nat -> Option Fn} {F Fq : Calls} {q : Bool} {d : Nat} {H : List Str} {sc : Scope}
variable {X X' Y Z : List Addr} {f g : List Loc} {U : Sto} {s s' s0 : Shared} {A : Around} {E : Value -> Shared -> Prop} {I a ea : Addr} {its : Items} {i : Nat} {env : Env} {J : List V}
theorem zEV {st : Stmt} : SOk S F Fq q d H sc st .stuck := fun env J f X U s A _ _ hne => absurd rfl hne
theorem zD6 (fs : zW S C T) {x : Str} {p : Pos} {c : Cls} {Q : Value -> Shared -> Prop} {U' : Sto} (fr : FR S X f s.heap env H sc J) (L : Lk S X f U' s.heap) (hx : zAm C sc x = some c) (h : C.excs.lookup x = some c -> x ≠ ("ValueError" : Str) -> Q (S.cl c) s) :
  wpAny (model S.prog S.w) A (eval (.Name x p) env) Q E s := by
 unfold zAm at hx
 split at hx
 ·rename_i hc
  simp only [Bool.and_eq_true, bne_iff_ne, ne_eq] at hc
  obtain ⟨⟨hg, hd⟩, hv⟩ := hc
  obtain ⟨mg, mb, h1, h2, _, _, _, _, h3⟩ := fs.g
  refine wpAny_Name ?_ (by simpa using hd)
  rcases h3 x c hx with h4 | ⟨h4, h5⟩
  ·exact wR fr.kind (fr.isGlob hg) (by rw [fr.glob]; exact L.ns h1) h4 (h hx hv)
  ·exact jS fr.kind (fr.isGlob hg) (by rw [fr.glob]; exact L.ns h1) h4 (by rw [fr.blt]; exact L.ns h2) h5 (h hx hv)
 ·first | exact zB hx | exact zF hx | cases hx
theorem zKZ (fs : zW S C T) {x m : Str} {np kp cp pos : Pos} {kk : Nat} {c : Cls} (hm : (m.length <= 1000 && PyData.strOk m) = true) (hx : zAm C sc x = some c) :
  SOk S F Fq q d H sc (.Raise (some (.Call (.Name x np) [.Constant (.str m) kk kp] [] cp)) none pos) (.raise c) := fun env J f X U s A st fw hne => by
 have e0 : exS F Fq q (.raise c) J U = if q = true then .stuck else .exc c U := rfl
 rw [e0] at hne ⊢
 by_cases hq : q = true
 ·rw [if_pos hq] at hne; exact absurd rfl hne
 rw [if_neg hq]
 have hh : A.handled = none := st.cx.hand (by simpa using hq)
 have hcl : ∃ y, C.excs.lookup y = some c /\ y ≠ ("ValueError" : Str) := by
  unfold zAm at hx
  split at hx
  ·rename_i hc
   simp only [Bool.and_eq_true, bne_iff_ne, ne_eq] at hc
   exact ⟨x, hx, hc.2⟩
  ·first | exact zB hx | exact zF hx | cases hx
 obtain ⟨y, hy, hv⟩ := hcl
 obtain ⟨Ca, bm, N, nm, qn, bs, hdct, sn, sub, ab, col, dd, k0, k1, k2, k3, k5, mN, hcl, hC, hN, hni, OT, -, _⟩ := (fs.exc y c hy).2 hv
 refine wpAny_Raise_call_subT (C := Ca) (nm := nm) (q := qn) (N := N) (bs := bs) (bm := bm) (hdct := hdct) (sn := sn) (sub := sub) (ab := ab) (col := col) (dd := dd) (k0 := k0) (k1 := k1) (k2 := k2) (k3 := k3) (k5 := k5)
  PySem.F.excBase_ValueError (mN := mN) (OT.hasType rfl) hh rfl hni (zD6 fs st.fr st.lk hx fun _ _ => ⟨hcl, ?_⟩)
 refine vB rfl (zBe rfl ?_)
 refine wpAny_mono ((zKc (F := F) (q := q) (d := d) (H := H) (sc := sc) hm) env J f X U s A st (by rw [zAs]; simp)) (fun v s₁ h₁ => ?_) fun e s' h => ?_
 ·obtain ⟨b, U', g, e, hg, k, L, r⟩ := h₁
  rw [zAs] at e; cases e
  refine ⟨rfl, by show 1 <= sizeLine; decide, L.base _ _ hC, L.ns hN, OT.keeps L.base, fun h' e hm => ?_⟩
  obtain ⟨t, he, -, -⟩ := hm.there
  have ex : Ext s₁ { s₁ with heap := h' } := ⟨rfl, hm.keeps⟩
  have ky : Kp f (ya env) s s₁ := k.mono fun a h => nomatch h
  refine ⟨c, U, g, e, rfl, rfl, hg, ky.trans hg (ex.kp _ _), ex.lk L, zw k.live hm.new, (fs.exc y c hy).2 hv, [e], _, _, L.hideNew ex hm.new he, he, hcl.symm, rfl, .inl ⟨rfl, rfl⟩⟩
 ·obtain ⟨_, _, _, _, _, e, _⟩ := h
  rw [zAs] at e; cases e
noncomputable def zPn (k : TK) (v : V) (J : List V) : List V :=
 match k with
 | .asg i => J.set i v
 | _ => J
inductive QT (S : zO) (X : List Addr) (env : Env) (H : List Str) (sc : Scope) (f : List Loc) (s : Shared) (J : List V) (k : TK) (r : R V) (fl : Flow) (s' : Shared) : Prop where
 | mk (v : V) (U' : Sto) (g : List Loc) (e : r = .ok v U') (hg : Fresh g s) (kp : Kp f (ya env) s s') (L : Lk S X (f ++ g) U' s'.heap) (p : FlR S X (f ++ g) s'.heap env H sc (zFm k v J) fl) (fr : FR S X (f ++ g) s'.heap env H sc (zPn k v J))
noncomputable def TKOk (S : zO) (F : Calls) (q : Bool) (d : Nat) (H : List Str) (sc : Scope) (ss : List Stmt) (k : TK) (c : CE) : Prop :=
 ∀ (env : Env) (J : List V) (f : List Loc) (X : List Addr) (U : Sto) (s : Shared) (A : Around), St S q d H sc env J f X U s A -> FW env X -> evE F q c J U ≠ .stuck ->
  wpAny (model S.prog S.w) A (execs ss env) (QT S X env H sc f s J k (evE F q c J U)) (ES S X [] f false s (evE F q c J U)) s
theorem zOT {e : Expr} {c : CE} {pos : Pos} (h : EOk S F q d H sc e c) : TKOk S F q d H sc [.Return (some e) pos] .ret c := fun env J f X U s A st fw hne => by
 refine wpAny_execs_cons (wpAny_Return_some (wpAny_mono (h env J f X U s A st hne) (fun v s₁ h₁ => ?_) fun _ _ x => x))
 obtain ⟨b, U', g, e, hg, k, L, r⟩ := h₁
 exact ⟨b, U', g, e, hg, (k.mono fun a h => nomatch h), L, ⟨v, rfl, r⟩, (st.keep hg k L).fr⟩
theorem zOS {e : Expr} {c : CE} {pos : Pos} (h : EOk S F q d H sc e c) (hs : ∀ env n t, swapsWith e t n env = pure false) : TKOk S F q d H sc [.Expr e pos] .exp c := fun env J f X U s A st fw hne => by
 refine wpAny_execs_cons (wpAny_Expr_any (wpAny_mono (h env J f X U s A st hne) (fun v s₁ h₁ => ?_) fun _ _ x => x) (by simp [interactive, st.fr.kind]) (hs _ _ _))
 obtain ⟨b, U', g, e, hg, k, L, r⟩ := h₁
 exact wpAny_execs_nil ⟨b, U', g, e, hg, (k.mono fun a h => nomatch h), L, ⟨rfl, (st.keep hg k L).fr⟩, (st.keep hg k L).fr⟩
theorem zOR {x : Str} {px pos : Pos} {e : Expr} {c : CE} (hx : yp H sc x = some i) (h : EOk S F q d H sc e c) (hs : ∀ env n t, swapsWith e t n env = pure false) : TKOk S F q d H sc [.Assign [.Name x px] e pos] (.asg i) c := fun env J f X U s A st fw hne => by
 refine wpAny_execs_cons (wpAny_Assign_Name (wpAny_mono (h env J f X U s A st hne) (fun v s₁ h₁ => ?_) fun _ _ x => x) (hs _ _ _))
 obtain ⟨b, U', g, e, hg, k, L, r⟩ := h₁
 refine xi (st.keep hg k L).fr fw hx r fun b' s' hY hX m fr => wpAny_execs_nil ?_
 have ky : Kp f (ya env) s s₁ := k.mono fun a h => nomatch h
 exact ⟨b, U', g, e, hg, ky.trans hg (m.kp hY), m.lk hX L, ⟨rfl, fr⟩, fr⟩
end
end Mine
end

section
namespace Mine
open PySem PyProof.Rows
section
variable {S : zO} {C : Ctx} {T : Nat -> Option Fn} {F Fq : Calls} {q : Bool} {d : Nat} {H : List Str} {sc : Scope}
variable {X X' Y Z : List Addr} {f g : List Loc} {U : Sto} {s s' s0 : Shared} {A : Around} {E : Value -> Shared -> Prop} {I a ea : Addr} {its : Items} {i : Nat} {env : Env} {J : List V}
theorem zJ8 {M : Model} {h : Heap} {g : Array GenState} {d : Drawn} {t : Nat} {os : OsState} {oe : Obj} {Q : Bool -> Shared -> Prop}
  {nm q nm' q' : Str} {Ca N Cd N' : Addr} {bs bm bs' bm' : List Value} {hdct hdct' : Bool} {sn sn' : List Str} {sub sub' : List Value} {ab ab' : Bool} {col col' : Option Bool} {dd dd' : Option Addr} {k0 k1 k2 k3 k5 k0' k1' k2' k3' k5' : Option Value} {newId newId' : String}
  (hC : h.get? Ca = some (excClassObj nm q Ca N bs bm hdct sn sub ab col dd k0 k1 k2 k3 k5 newId)) (hD : h.get? Cd = some (excClassObj nm' q' Cd N' bs' bm' hdct' sn' sub' ab' col' dd' k0' k1' k2' k3' k5' newId'))
  (he : h.get? ea = some oe) (hcls : oe.cls = .ref Ca) (hbase : bm'.contains (.type "BaseException") = true)
  {b : Bool} (hb : (Value.ref Ca :: bm).contains (.ref Cd) = b) (hq : Q b ⟨h, g, d, t, os⟩) : wpAny M A (excMatches (.ref ea) (.ref Cd)) Q E ⟨h, g, d, t, os⟩ := by
 have hcB : (Value.ref Cd :: bm').contains (.type "BaseException") = true := by rw [List.contains_cons, hbase, Bool.or_true]
 have f := tc_notTuple
 unfold excMatches
 cases b <;>
 ((repeat (first | (with_reducible refine wpAny_loadPart_at he ?_; rw [hcls]) | with_reducible refine wpAny_loadPart_at hD ?_ | (with_reducible refine wpAny_isSubtype_exc hD ?_; rw [hcB]) | (with_reducible refine wpAny_isSubtype_exc hC ?_; rw [hb]) | wp_step)); exact hq)
theorem zER {c k : Cls} {oe : Obj} {Q : Bool -> Shared -> Prop} (L : Lk S X f U s.heap) (xc : zBB S c) (xk : zBB S k) (hk : k ∈ S.kn) (he : s.heap.get? ea = some oe) (hcls : oe.cls = S.cl c) (h : Q (c.sub k) s) :
  wpAny (model S.prog S.w) A (excMatches (.ref ea) (S.cl k)) Q E s := by
 obtain ⟨Ca, bm, N, nm, qn, bs, hdct, sn, sub, ab, col, dd, k0, k1, k2, k3, k5, mN, hcl, hC, hN, hni, OT, hm, _⟩ := xc
 obtain ⟨Cd, bm', N', nm', qn', bs', hdct', sn', sub', ab', col', dd', k0', k1', k2', k3', k5', mN', hcl', hC', hN', hni', OT', hm', _⟩ := xk
 have := hm k hk
 rw [hcl'] at this ⊢
 rw [hcl] at hcls
 obtain ⟨hp, g, d, tk, os⟩ := s
 exact zJ8 (L.base _ _ hC) (L.base _ _ hC') he hcls (OT'.hasType rfl) this h
theorem Cx.mark {fr : Option Addr} {h : Heap} {v : Value} (c : Cx S A q d f h fr) : Cx S (A.mark (some v)) true d f h fr :=
 ⟨c.depth, c.units, fun h => (nomatch h), c.frs⟩
theorem zFK {x : Str} {pos : Pos} {Q : Unit -> Shared -> Prop} (fr : FR S X f s.heap env H sc J) (fw : FW env X) (hl : sc.names.lookup x = some .local) (hx : yp H sc x = some i)
  (h : ∀ s', Mv env.locals s s' -> FR S X f s'.heap env H sc (J.set i .undef) -> Q () s') : wpAny (model S.prog S.w) A (do bindName env x .none; unbindBehindTheSuite env x pos) Q E s := by
 obtain ⟨-, hi⟩ := zAr hx
 have hk : env.kindOf x = some .local := by
  rcases fr.names x with e | ⟨e, _⟩
  ·rw [e]; exact hl
  ·rw [hl] at e; first | exact zB e | exact zF e | cases e
 have hil : i < J.length := by rw [fr.len]; exact wr hi
 obtain ⟨m, hm⟩ := fr.loc.2
 have setv : ∀ {j : Nat} {v' : V}, (J.set i .undef)[j]? = some v' -> j ≠ i -> J[j]? = some v' := fun h hne => by rwa [List.getElem?_set_ne (fun q => hne q.symm)] at h
 have cellNe : ∀ x c, yG (env.kindOf x) -> env.cells.lookup x = some c -> c ≠ env.locals := fun x c hk e q => by
  obtain ⟨c', o, e', _, ⟨ob, h1, h2⟩⟩ := fr.cells x hk
  rw [e] at e'; cases e'
  obtain ⟨ob', es, ep, h3, h4, _⟩ := hm
  rw [q, h3] at h1; cases h1; rw [h4] at h2; cases h2
 refine wpAny_nameGoes_keeps hk hm (by simp [fr.kind]) fun h' v hn' hs' => ?_
 obtain ⟨o2, es2, ep2, e3, e4, _⟩ := id hn'
 have mv : Mv env.locals s { s with heap := h', toks := s.toks + 1 } := ⟨rfl, fun b o hb e => (hs'.2 b hb).trans e, ⟨o2, e3⟩, fun _ _ _ _ _ => ⟨o2, es2, ep2, e3, e4⟩⟩
 have cl : ∀ {b : Addr} {m' : Option Value}, b ≠ env.locals -> s.heap.IsCell b m' -> h'.IsCell b m' := fun hb h => by
  obtain ⟨o, ho, r⟩ := h
  exact ⟨o, mv.keep _ _ hb ho, r⟩
 refine h _ mv ⟨fr.kind, fr.glob, fr.blt, fr.names, ⟨fr.loc.1, _, hn'⟩, fun y hy => ?_, fun y j v' h1 h2 h3 h4 => ?_, by rw [List.length_set]; exact fr.len⟩
 ·obtain ⟨c, o, e1, hX, h5⟩ := fr.cells y hy
  exact ⟨c, o, e1, hX, cl (cellNe y c hy e1) h5⟩
 ·by_cases hj : j = i
  ·subst hj
   rw [List.getElem?_set_self hil] at h3; cases h3
   exact absurd rfl h4
  ·obtain ⟨w', h5, h6⟩ := fr.vals y j v' h1 h2 (setv h3 hj) h4
   refine ⟨w', ?_, mv.vr fw.loc h6⟩
   rcases h5 with ⟨k, m', h7, h8⟩ | ⟨k, c, h7, h8⟩
   ·refine .inl ⟨k, _, hn', ?_⟩
    have hyx : y ≠ x := fun q => by rw [q, hi] at h2; cases h2; exact hj rfl
    obtain ⟨ob, es, ep, q1, q2, q3, q4⟩ := h7
    obtain ⟨ob', es', ep', p1, p2, p3, p4⟩ := hm
    rw [q1] at p1; cases p1; rw [q2] at p2; cases p2
    show (if y = x then v else m y) = some w'
    rw [if_neg hyx, <- p4 y, q4 y, h8]
   ·exact .inr ⟨k, c, h7, cl (cellNe y c k h7) h8⟩
noncomputable def zPw (H : List Str) (sc : Scope) (n : Option Str) (as : Option Nat) : Prop := (n = none /\ as = none) \/ ∃ x i, n = some x /\ as = some i /\ sc.names.lookup x = some .local /\ yp H sc x = some i
structure zMu (S : zO) (C : Ctx) (Fq : Calls) (d : Nat) (H : List Str) (sc : Scope) (h : ExceptHandler) (c : Hd) : Prop where
 ex : ∃ x np n b₀ body pos, h = .ExceptHandler (some (.Name x np)) n (b₀ :: body) pos /\ zAm C sc x = some c.cls /\ zPw H sc n c.as /\ TKOk S Fq true d H sc (b₀ :: body) c.tk c.e
inductive zMz (S : zO) (A : Around) (X : List Addr) (env : Env) (H : List Str) (sc : Scope) (f : List Loc) (s : Shared) (J : List V) (ss : List Stmt) (k : TK) (r : R V) : Prop
 | mk (v : V) (U' : Sto) (e : r = .ok v U') (w : ∀ E, wpAny (model S.prog S.w) A (execs ss env) (QT S X env H sc f s J k (.ok v U')) E s)
theorem TKOk.calm {ss : List Stmt} {k : TK} {c : CE} {γ : Type} {rk : V -> Sto -> R γ} (h : TKOk S F q d H sc ss k c) (st : St S q d H sc env J f X U s A) (fw : FW env X) (hne : (evE F q c J U).calm.bind rk ≠ .stuck) :
  zMz S A X env H sc f s J ss k (evE F q c J U) := by
 have hs := h env J f X U s A st fw
 cases hr : evE F q c J U with
 | ok v U' =>
  rw [hr] at hs
  refine ⟨v, U', rfl, fun E => wpAny_mono (hs (by simp)) (fun _ _ x => x) fun e s' q => ?_⟩
  obtain ⟨_, _, _, _, _, e, _⟩ := q; cases e
 | exc _ _ => rw [hr] at hne; exact absurd rfl hne
 | stuck => rw [hr] at hne; exact absurd rfl hne
structure Met (S : zO) (q : Bool) (d : Nat) (H : List Str) (sc : Scope) (env : Env) (J : List V) (f g : List Loc) (X : List Addr) (U0 U : Sto) (s0 s : Shared) (A : Around) (ea : Addr) (k : Cls) : Prop where
 st : St S q d H sc env J f X U0 s0 A
 fw : FW env X
 fresh : Fresh g s0
 kp : Kp f [] s0 s
 lk : Lk S X (f ++ g) U s.heap
 exc : ExcR S X (f ++ g) U s.heap s0.heap ea k
theorem Met.alive {U0 : Sto} {k : Cls} (m : Met S q d H sc env J f g X U0 U s0 s A ea k) : ∀ a ∈ X, ∃ o, s0.heap.get? a = some o := fun a ha => (m.st.lk.hid a ha).2.2
theorem zHL (fs : zW S C T) {U0 : Sto} {k : Cls} (m : Met S q d H sc env J f g X U0 U s0 s A ea k) : ∀ {hs : List ExceptHandler} {cs : List Hd}, All2 (zMu S C Fq d H sc) hs cs -> exH Fq cs J k U ≠ .stuck ->
  wpAny (model S.prog S.w) A (handleBy (.ref ea) env hs) (QF S X env H sc f s0 (exH Fq cs J k U)) E s := by
 intro hs cs h
 induction h with
 | nil => intro hne; exact absurd rfl hne
 | @cons h c hs cs hh hr ih =>
  intro hne
  obtain ⟨x, np, n, b₀, body, pos, rfl, hx, has, htk⟩ := hh.ex
  have st := m.st.keep m.fresh m.kp m.lk
  have e0 : exH Fq (c :: cs) J k U = if k.sub c.cls = true then ((evE Fq true c.e (zB4 c.as k J) U).calm.bind fun v U => .ok (zMe c.as (zFm c.tk v (zB4 c.as k J))) U) else exH Fq cs J k U := rfl
  rw [e0] at hne ⊢
  obtain ⟨e1, ec, hs', oe, vs, Lh, e4, e5, e6, e8⟩ := id m.exc
  refine wpAny_handleBy_cons (codeAny_handlers_test (zD6 fs st.fr m.lk hx fun hc hv => ?_)) (by intro q; cases q)
  refine zER m.lk ec ((fs.exc x c.cls hc).2 hv) (fs.exc x c.cls hc).1 e4 e5 ?_
  by_cases hsub : k.sub c.cls = true
  ·rw [if_pos hsub] at hne
   rw [hsub]
   simp only [if_true]
   rcases has with ⟨rfl, ha⟩ | ⟨y, i, rfl, ha, hl, hsl⟩
   ·rw [ha] at hne ⊢
    refine codeAny_handlers_suite (xt m.exc m.alive fun h' hs'' hf N L' x' => ?_)
    have kp' := N.kp m.kp hf
    have st' : St S true d H sc env J (f ++ g) X U { s with heap := h' } (A.mark (some (.ref ea))) := by
     have := m.st.keep m.fresh kp' L'
     exact ⟨this.cx.mark, this.fr, this.lk⟩
    obtain ⟨v, U', ev, w⟩ := htk.calm st' m.fw hne
    refine wpAny_mono (w _) (fun fl s₁ q => ?_) fun _ _ x => x
    obtain ⟨v', σ2, g2, ez, hg2, k2, L2, p2, -⟩ := q
    cases ez
    rw [show zB4 none k J = J from rfl, ev]
    have kp1 : Kp f (ya env) s0 { s with heap := h' } := kp'.mono fun a h => nomatch h
    rw [List.append_assoc] at L2 p2
    exact ⟨_, U', g ++ g2, rfl, m.fresh.trans kp1.live hg2, kp1.trans m.fresh k2, L2, p2⟩
   ·rw [ha] at hne ⊢
    refine codeAny_handlers_suite_as (xt m.exc m.alive fun h' hs'' hf N L' x' => ?_)
    have kp' := N.kp m.kp hf
    have st' := m.st.keep m.fresh kp' L'
    obtain ⟨e1', ec', hs3, oe', vs', Lh', e4', e5', e6', e8'⟩ := x'
    have hea : ea ∈ hs3 := by rcases e8' with ⟨rfl, _⟩ | ⟨T, _, _, rfl, _⟩ <;> exact List.mem_cons_self
    have r : VR S X (f ++ g) h' (.exc k) (.ref ea) := by
     refine ⟨ea, oe', rfl, ⟨(Lh'.hid ea (List.mem_append_left _ hea)).2.1, fun q => ?_⟩, e4', e5', ec'⟩
     obtain ⟨o, z⟩ := m.alive ea q; rw [e1'] at z; cases z
    refine xi (s := { s with heap := h' }) st'.fr m.fw hsl r fun b s₁ hY hX mv fr => ?_
    have kp1 : Kp f (ya env) s0 s₁ := (kp'.mono fun a h => nomatch h).trans m.fresh (mv.kp hY)
    have st1 : St S true d H sc env (J.set i (.exc k)) (f ++ g) X U s₁ (A.mark (some (.ref ea))) := ⟨(m.st.cx.keep kp1 m.fresh).mark, fr, mv.lk hX L'⟩
    obtain ⟨v, U', ev, w⟩ := htk.calm st1 m.fw hne
    refine wpAny_mono (w _) (fun fl s₂ q => ?_) fun _ _ x => x
    obtain ⟨v', σ2, g2, ez, hg2, k2, L2, p2, fr2⟩ := q
    cases ez
    have fg2 : Fresh (g ++ g2) s0 := m.fresh.trans kp1.live hg2
    have kp2 : Kp f (ya env) s0 s₂ := kp1.trans m.fresh k2
    rw [List.append_assoc] at L2 p2 fr2
    rw [show zB4 (some i) k J = J.set i (.exc k) from rfl, ev]
    refine zFK fr2 m.fw hl hsl fun s₃ mv3 fr3 => ?_
    refine ⟨_, U', g ++ g2, rfl, fg2, kp2.trans fg2 (mv3.kp List.mem_cons_self), mv3.lk m.fw.loc L2, ?_⟩
    cases htk : c.tk with
    | ret =>
     rw [htk] at p2
     obtain ⟨w2, rfl, r2⟩ := p2
     exact ⟨w2, rfl, mv3.vr m.fw.loc r2⟩
    | asg j => rw [htk] at p2 fr3; exact ⟨p2.1, fr3⟩
    | exp => rw [htk] at p2 fr3; exact ⟨p2.1, fr3⟩
  ·rw [if_neg hsub] at hne ⊢
   have : k.sub c.cls = false := by simpa using hsub
   rw [this]
   exact ih hne
theorem zOD (fs : zW S C T) {b₀ : Stmt} {body : List Stmt} {h₀ : ExceptHandler} {hs : List ExceptHandler} {k : TK} {c : CE} {cs : List Hd} {pos : Pos} (hb : TKOk S F q d H sc (b₀ :: body) k c) (hh : All2 (zMu S C Fq d H sc) (h₀ :: hs) cs) :
  SOk S F Fq q d H sc (.Try (b₀ :: body) (h₀ :: hs) [] [] pos) (.try k c cs) := fun env J f X U s A st fw hne => by
 have e0 : exS F Fq q (.try k c cs) J U = if q = true then .stuck else (evE F q c J U).orElse (fun v U => .ok (zFm k v J) U) (exH Fq cs J) := rfl
 rw [e0] at hne ⊢
 by_cases hq : q = true
 ·rw [if_pos hq] at hne; exact absurd rfl hne
 rw [if_neg hq] at hne ⊢
 have hr : evE F q c J U ≠ .stuck := fun e => hne (by rw [e]; rfl)
 refine wpAny_Try_except (wpAny_mono (hb env J f X U s A st fw hr) (fun fl s₁ h₁ => ?_) fun e s₁ h₁ => ?_)
 ·obtain ⟨v, U', g, e, hg, kk, L, p, -⟩ := h₁
  rw [e]
  have : QF S X env H sc f s ((R.ok v U').orElse (fun v U => .ok (zFm k v J) U) (exH Fq cs J)) fl s₁ := ⟨_, U', g, rfl, hg, kk, L, p⟩
  cases fl with
  | next => exact wpAny_execs_nil this
  | _ => exact this
 ·obtain ⟨c', U', g, ea, rfl, e2, hg, kk, L, x⟩ := h₁
  rw [e2] at hne ⊢
  have hne : exH Fq cs J c' U' ≠ .stuck := hne
  obtain ⟨en, l, h1, h2, h3⟩ := (st.cx.keep kk hg).frs
  have hX : ∀ a ∈ X, ∃ o, s.heap.get? a = some o := fun a ha => (st.lk.hid a ha).2.2
  obtain ⟨h0, L1, o, es, n, h4, -⟩ := h3 en List.mem_cons_self
  rw [wu (env' := en) h2]
  refine zBY h1 h3 h4 x hX kk fun h' kk' L' x' => ?_
  have m : Met S q d H sc env J f g X U U' s { s₁ with heap := h' } A ea c' := ⟨st, fw, hg, kk', L', x'⟩
  exact zHL fs m hh hne
end
end Mine
end

section
namespace Mine
open PySem PyProof.Rows
section
variable {S : zO} {C : Ctx} {T : Nat -> Option Fn} {F Fq : Calls} {q : Bool} {d : Nat} {H : List Str} {sc : Scope}
variable {X X' Y Z : List Addr} {f g : List Loc} {U : Sto} {s s' : Shared} {A : Around} {E : Value -> Shared -> Prop} {env : Env} {J : List V}
theorem zLg {es : List Expr} {pos : Pos} (hs : es.any isStar = false) (hl : es.length <= 20) : ((backTo pos (starEach es env)).all (fun x => !x.1) && (backToKw pos (keywordEach [] env)).all (fun x => x.1.isSome)
   && decide (es.length + ([] : List Keyword).length + (if ([] : List Keyword).isEmpty then 0 else 1) < 30)) = true := by
 have h1 : (backTo pos (starEach es env)).all (fun x => !x.1) = true := by
  have := zl (env := env) (pos := pos) es hs
  rw [List.any_eq_false] at this
  rw [List.all_eq_true]
  intro x hx
  simpa using this x hx
 rw [h1]
 exact decide_eq_true (show es.length + 0 + 0 < 30 by omega)
theorem zHY {o : Expr} {name : Str} {apos pos : Pos} {args : List Expr} {Q : Value -> Shared -> Prop} (hbase : attributeBase o name env (eval o env) = eval o env)
  (hfew : ((backTo pos (starEach args env)).all (fun x => !x.1) && (backToKw pos (keywordEach [] env)).all (fun x => x.1.isSome)
   && decide (args.length + ([] : List Keyword).length + (if ([] : List Keyword).isEmpty then 0 else 1) < 30)) = true) (hline : (apos.endLine == pos.line) = true)
  (h : wpAny (model S.prog S.w) A (eval o env) (fun ov s₁ => ∀ pl, wpAny (model S.prog S.w) A (getMethod ov name pl) (fun fx s₂ => wpAny (model S.prog S.w) A (callWith pos fx.1 fx.2 (backTo pos (starEach args env)) []) Q E s₂) E s₁) E s) :
  wpAny (model S.prog S.w) A (eval (.Call (.Attribute o name apos) args [] pos) env) Q E s := by
 rw [arm_eval_Call, hbase]
 refine wpAny_bind (wpAny_mono h (fun ov s₁ h₁ => ?_) fun _ _ e => e)
 refine wpAny_bind (wpAny_standAt ?_)
 have hform : methodCallForm (args.length + ([] : List Keyword).length) (backTo pos (starEach args env)) (backToKw pos (keywordEach [] env)) = true := hfew
 have hpos : methodCallPos true o env apos pos = pure pos := by unfold methodCallPos; simp [hline]
 unfold methodCall
 rw [hform]
 refine wpAny_bind (wpAny_holding (wpAny_mono (h₁ _) (fun fx s₂ h₂ => ?_) fun _ _ x => x))
 obtain ⟨fv, first⟩ := fx
 exact wpAny_bind (wpAny_of_eq hpos h₂)
inductive zMv (S : zO) (X : List Addr) (f : List Loc) (s : Shared) (as : List (Nat × V)) (n : Nat) (v : Value) : Prop
 | mk (ax dx : Addr) (ob : Obj) (mA : Str -> Option Value) (e : v = .ref ax) (hf : f[n]? = some (ax, some dx)) (h1 : s.heap.get? ax = some ob) (h2 : ob.cls = .ref S.book /\ ob.dict = some dx /\ (∀ c, ob.data ≠ .cls c) /\ dx ≠ ax) (h3 : s.heap.Ns1 dx mA)
   (h4 : ∀ k x, as.lookup k = some x -> ∃ w, mA (zQ k) = some w /\ VR S X f s.heap x w) (h5 : ∀ x v, mA x = some v -> x = zQ 0 \/ x = zQ 1) (h6 : ∀ k, k ∈ as.map (·.1) -> k < 2) (h7 : s.heap.Inst ax S.book mA)
theorem zDI {n : Nat} {v : Value} {as : List (Nat × V)} (L : Lk S X f U s.heap) (r : VR S X f s.heap (.ref n) v) (ho : U[n]? = some (.inst as)) :
  zMv S X f s as n v := by
 obtain ⟨⟨ax, dd⟩, hl, rfl⟩ := r
 have := L.obj n _ _ hl ho
 cases dd with
 | none => exact this.elim
 | some dx =>
  obtain ⟨ob, mA, e1, e2, e3, e4, e5, e6⟩ := this
  exact ⟨ax, dx, ob, mA, rfl, hl, e1, e2, e3, e4, e5, e6, ob, e1, e2.1, e2.2.2.1, .inr ⟨dx, e2.2.1, e2.2.2.2, e3⟩⟩
theorem zNo (fs : zW S C T) {x : V} {w : Value} (r : VR S X f s.heap x w) : handedOut w = pure w := by
 cases x with
 | undef => exact False.elim r
 | none => subst r; rfl
 | bool b => subst r; rfl
 | int i => obtain ⟨t, rfl⟩ := r; rfl
 | str y => obtain ⟨⟨t, rfl⟩, _⟩ := r; rfl
 | tup xs => obtain ⟨a, _, _, rfl, _⟩ := r; rfl
 | lst xs => obtain ⟨a, _, _, rfl, _⟩ := r; rfl
 | ref n => obtain ⟨l, _, rfl⟩ := r; rfl
 | exc c => obtain ⟨a, _, rfl, _⟩ := r; rfl
 | parts => obtain ⟨hp, rfl⟩ := r; obtain ⟨dA, _, e, _⟩ := fs.parts hp; rw [e]; rfl
theorem zCi : typeLookup (.type "object") (zQ 0) = pure none := by rw [typeLookup_type, builtinLookup_eq_fast]; kernel_rfl
theorem zCj : typeLookup (.type "object") (zQ 1) = pure none := by rw [typeLookup_type, builtinLookup_eq_fast]; kernel_rfl
theorem zBF {m : Str} {k : Nat} (h : attrNames.lookup m = some k) : k < 2 /\ m = zQ k := by
 have := zR h
 simp only [attrNames, List.mem_cons, Prod.mk.injEq, List.not_mem_nil, or_false] at this
 rcases this with ⟨rfl, rfl⟩ | ⟨rfl, rfl⟩
 ·exact ⟨by decide, rfl⟩
 ·exact ⟨by decide, rfl⟩
theorem zL0 (fs : zW S C T) {o : Expr} {a : CE} {m : Str} {k : Nat} {pos : Pos} (hm : C.attrs.lookup m = some k) (hb : noSuper o = true) (ho : EOk S F q d H sc o a) : EOk S F q d H sc (.Attribute o m pos) (.attr a k) := fun env J f X U s A st hne => by
 rw [zK2] at hne ⊢
 rcases fs.book with ⟨_, _, h0⟩ | ⟨hat, B⟩
 ·rw [h0] at hm; first | exact zB hm | exact zF hm | cases hm
 rw [hat] at hm
 obtain ⟨hk, rfl⟩ := zBF hm
 obtain ⟨N, mN, nm, qn, bs, sn, sub, col, dd, k0, k1, k2, k3, k5, hC, hN, hq, _⟩ := B
 rw [arm_eval_Attribute, wE hb]
 refine wpAny_bind (Sim.goQ (P' := PV S X) (ho env J f X U s A st) hne (fun _ _ x => x) (fun _ _ x => x) fun va a' U1 g₁ s₁ hne hg kk L ra hQ hE => wpAny_bind (wpAny_standAt (wpAny_bind (wpAny_holding ?_))))
 obtain ⟨x, hx⟩ := yf hne
 rw [hx] at hQ
 cases a' with
 | ref n =>
  have hx : zFy k U1[n]? = some x := hx
  cases hU : U1[n]? with
  | none => rw [hU] at hx; first | exact zB hx | exact zF hx | cases hx
  | some obj =>
  rw [hU] at hx
  cases obj with
  | inst as =>
   obtain ⟨ax, dx, ob, mA, rfl, hf, e1, e2, e3, e4, e5, e6, I⟩ := zDI L ra hU
   obtain ⟨w, hw, rw'⟩ := e4 k x hx
   obtain ⟨hp, gg, dr, tk, os⟩ := s₁
   have hna : mN (zQ k) = none := by
    match k, hk with
    | 0, _ => exact hq.2.2.2.1
    | 1, _ => exact hq.2.2.2.2
   have hB : typeLookup (.type "object") (zQ k) = pure none := by
    match k, hk with
    | 0, _ => exact zCi
    | 1, _ => exact zCj
   refine load_attr (L.base _ _ hC) (L.ns hN) hq.1 hna hB I hw (zNo fs rw') (wpAny_bind (wpAny_letTemporaryGo (wpAny_pure ?_)))
   have ex : Ext ⟨hp, gg, dr, tk, os⟩ ⟨hp, gg, dr, tk + 1, os⟩ := ⟨rfl, fun _ _ e => e⟩
   exact hQ _ _ ⟨x, U1, [], rfl, .nil _, ex.kp _ _, by rw [List.append_nil]; exact L, by rw [List.append_nil]; exact rw'⟩
  | _ => first | exact zB hx | exact zF hx | cases hx
 | _ => first | exact zB hx | exact zF hx | cases hx
theorem zKT (fs : zW S C T) (FSs : FS S F q d) {o : Expr} {a : CE} {m : Str} {n : Nat} {apos pos : Pos} {es : List Expr} {cs : List CE} (hm : C.meths.lookup m = some n) (hb : noSuper o = true) (hp : (apos.endLine == pos.line) = true) (hlen : es.length <= 20)
  (ho : EOk S F q d H sc o a) (h : All2 (GOk S F q d H sc) es cs) : EOk S F q d H sc (.Call (.Attribute o m apos) es [] pos) (.callm n a cs) := fun env J f X U s A st hne => by
 rw [zGq] at hne ⊢
 rcases fs.book with ⟨_, h0, _⟩ | ⟨hat, B⟩
 ·rw [h0] at hm; first | exact zB hm | exact zF hm | cases hm
 obtain ⟨N, mN, nm, qn, bs, sn, sub, col, dd, k0, k1, k2, k3, k5, hC, hN, hqt, _, _, hms⟩ := B
 obtain ⟨hmf, of, hof, hoc⟩ := hms m n hm
 have hl := LOk.of h
 refine zHY (wE hb) (zLg hl.1 hlen) hp ?_
 refine Sim.goQ (P' := PV S X) (ho env J f X U s A st) hne (fun _ _ x => x) (fun _ _ x => x) fun va a' U1 g₁ s₁ hne hg kk L ra hQ hE pl => ?_
 by_cases hi : isInst U1 a' = true
 case neg => rw [if_neg hi] at hne; exact absurd rfl hne
 rw [if_pos hi] at hne hQ hE
 cases a' with
 | ref k =>
  have hi : (match U1[k]? with | some (.inst _) => true | _ => false) = true := hi
  cases hU : U1[k]? with
  | none => rw [hU] at hi; cases hi
  | some ob =>
  rw [hU] at hi
  cases ob with
  | list _ => cases hi
  | dict _ => cases hi
  | inst as =>
   obtain ⟨ax, dx, ob, mA, rfl, hf, e1, e2, e3, e4, e5, e6, I⟩ := zDI L ra hU
   have hsh : mA m = none := by
    cases e : mA m with
    | none => rfl
    | some v =>
     rcases e5 m v e with z | z
     ·rw [z, hqt.2.2.2.1] at hmf; first | exact zB hmf | exact zF hmf | cases hmf
     ·rw [z, hqt.2.2.2.2] at hmf; first | exact zB hmf | exact zF hmf | cases hmf
   obtain ⟨hh, gg, dr, tk, os⟩ := s₁
   refine method_of (L.base _ _ hC) (L.ns hN) hqt.1 hqt.2.1 hmf (L.base _ _ hof) hoc (typeLookup_type _ _) I hsh ?_
   refine yX (zl _ hl.1) ?_
   refine Sim.goQ (P' := PV S X) (hl.2 env pos J _ X U1 _ A (st.keep hg kk L)) hne hQ hE fun vs xs U2 g₂ s₂ hne hg₂ k₂ L₂ rs hQ hE => ?_
   have ra2 := VR.keepK k₂ hg₂ (fun _ h => nomatch h) ra
   obtain ⟨⟨o, fd, h1, h2⟩, h3⟩ := FSs n (.ref k :: xs) U2 _ X A s₂ (.ref ax :: vs) ((st.keep hg kk L).keep hg₂ k₂ L₂).cx.call L₂ (⟨ra2, rs⟩) hne
   refine ⟨.inr ⟨_, o, fd, rfl, L₂.base _ _ h1, h2⟩, wpAny_call ?_⟩
   refine codeAny_mono h3 fun r s' hq => ?_
   match r, hq with
   | .ok (.ret v), hq => exact hQ v s' hq
   | .error e, hq => exact hE e s' hq
 | _ => first | exact zB hi | exact zF hi | cases hi
theorem zJT {pos : Pos} {Cb N : Addr} {nm qn : Str} {bs bm : List Value} {hdct : Bool} {sn : List Str} {sub : List Value} {ab : Bool} {col : Option Bool} {dd : Option Addr} {k0 k1 k2 k3 k5 : Option Value} {newId : String} {Q : Value -> Shared -> Prop}
  (hC : s.heap.get? Cb = some (excClassObj nm qn Cb N bs bm hdct sn sub ab col dd k0 k1 k2 k3 k5 newId)) (h : wpAny (model S.prog S.w) A (call (.ref Cb) []) Q E s) : wpAny (model S.prog S.w) A (callWith pos (.ref Cb) [] (backTo pos (starEach [] env)) []) Q E s := by
 show wpAny (model S.prog S.w) A (callWith pos (.ref Cb) [] [] []) Q E s
 unfold callWith
 refine wpAny_bind (wpAny_holding (evalArgs_empty ?_))
 refine wpAny_bind (wpAny_standAt ?_)
 obtain ⟨hh, gg, dr, tk, os⟩ := s
 refine wpAny_bind (wpAny_keeperOf_exc hC ?_)
 exact wpAny_bind (wpAny_mono h (fun r s' q => wpAny_bind (wpAny_holding (wpAny_point (wpAny_pure q)))) fun _ _ q => q)
theorem zN9 (fs : zW S C T) (FSs : FS S F q d) {p pos : Pos} (hbk : C.book = true) (hg : isGlob sc "Book" = true) : EOk S F q d H sc (.Call (.Name "Book" p) [] [] pos) .new := fun env J f X U s A st hne => by
 have e0 : evE F q .new J U = (F 0 [.ref U.length] (U ++ [.inst []])).bind (zBX U.length) := rfl
 rw [e0] at hne ⊢
 rcases fs.book with ⟨h0, _⟩ | ⟨hat, B⟩
 ·rw [h0] at hbk; first | exact zB hbk | exact zF hbk | cases hbk
 obtain ⟨N, mN, nm, qn, bs, sn, sub, col, dd, k0, k1, k2, k3, k5, hC, hN, hqt, hini, ⟨of, hof, hoc⟩, _⟩ := B
 obtain ⟨mg, mb, g1, g2, g3, g4, g5, g6, _⟩ := fs.g
 refine wpAny_Call_NameR (wpAny_Name (wR st.fr.kind (st.fr.isGlob hg) (by rw [st.fr.glob]; exact st.lk.ns g1) (g6 hbk) ?_) (by decide))
 refine zJT (st.lk.base _ _ hC) ?_
 have L := st.lk
 have cx := st.cx
 have key : ∀ h' x dx, Heap.MadeObj s.heap h' x dx S.book -> wpAny (model S.prog S.w) (A.under (.builtin "type.__call__" ⟨[Value.ref S.book], []⟩)) (call (Value.ref (S.fn 0)) [Value.ref x])
   (fun r s' => r = .none /\ QS S X [] f (PV S X) s ((F 0 [.ref U.length] (U ++ [.inst []])).bind (zBX U.length)) (.ref x) s')
   (ES S X [] f false s ((F 0 [.ref U.length] (U ++ [.inst []])).bind (zBX U.length))) { s with heap := h' } := fun h' x dx Mk => by
  have ex : Ext s { s with heap := h' } := ⟨rfl, Mk.keeps⟩
  obtain ⟨ob, hx, hcx, hncx, hdx⟩ := Mk.inst
  have hdd := Mk.dict ob hx
  obtain ⟨hne', hns⟩ : dx ≠ x /\ h'.Ns1 dx fun _ => none := by
   rcases hdx with ⟨hn0, _⟩ | ⟨d', hd', hne', hns'⟩
   ·rw [hn0] at hdd; first | exact zB hdd | exact zF hdd | cases hdd
   ·obtain rfl := Option.some.inj (hd'.symm.trans hdd); exact ⟨hne', hns'⟩
  have hfr : Fresh [(x, some dx)] s := fun a ha => by
   rcases List.mem_cons.mp ha with rfl | ha
   ·exact Mk.newX
   ·obtain rfl := List.mem_singleton.mp ha; exact Mk.newD
  have L1 : Lk S ([x, dx] ++ X) f U h' := L.enter (s₁ := { s with heap := h' }) Mk.keeps fun a ha => by
   rcases List.mem_cons.mp ha with rfl | ha
   ·exact ⟨Mk.newX, ob, hx⟩
   ·obtain rfl := List.mem_singleton.mp ha
    exact ⟨Mk.newD, let ⟨o, _, _, e, _⟩ := hns; ⟨o, e⟩⟩
  have hnX : ∀ a ∈ [x, dx], a ∉ X := fun a ha hX => by
   obtain ⟨o, e⟩ := (L.hid a hX).2.2
   rcases List.mem_cons.mp ha with rfl | ha
   ·rw [Mk.newX] at e; first | exact zB e | exact zF e | cases e
   ·obtain rfl := List.mem_singleton.mp ha; rw [Mk.newD] at e; cases e
  have L2 : Lk S X (f ++ [(x, some dx)]) (U ++ [.inst []]) h' := Lk.track (l := (x, some dx)) L1 (List.nodup_cons.mpr ⟨fun h => hne' (List.mem_singleton.mp h).symm, List.nodup_cons.mpr ⟨fun h => (nomatch h), .nil⟩⟩) hnX
   ⟨ob, fun _ => none, hx, ⟨hcx, hdd, hncx, hne'⟩, hns, fun k x e => by simp at e, fun x v e => by simp at e, fun k e => by simp at e⟩
  have hlen : (f ++ [(x, some dx)])[U.length]? = some (x, some dx) := by rw [<- L.len]; simp
  have rx : VRs S X (f ++ [(x, some dx)]) h' [.ref U.length] [.ref x] := ⟨⟨_, hlen, rfl⟩, trivial⟩
  have kp0 : Kp f [] s { s with heap := h' } := ex.kp _ _
  have cxc : CxC S (A.under (.builtin "type.__call__" ⟨[Value.ref S.book], []⟩)) q d (f ++ [(x, some dx)]) h' := by
   obtain ⟨e1, l, h1, _, h3⟩ := cx.frs
   refine ⟨?_, ?_, cx.hand, e1 :: l, ?_, h3.keep kp0 hfr⟩
   ·have := cx.depth; show A.depth + 1 + 2 * d + 2 <= 900; omega
   ·have := cx.units; show A.units + 1 + 5 * d + 200 <= 9900; omega
   ·exact h1
  have hr : F 0 [.ref U.length] (U ++ [.inst []]) ≠ .stuck := fun e => hne (by rw [e]; rfl)
  obtain ⟨_, h3⟩ := FSs 0 [.ref U.length] (U ++ [.inst []]) _ X _ { s with heap := h' } [.ref x] cxc L2 rx hr
  refine wpAny_call (codeAny_mono h3 fun r s' hq => ?_)
  match r, hq with
  | .ok (.ret v), hq =>
   obtain ⟨b, U'', g', e, hg', kp', L3, rv⟩ := hq
   rw [e] at hne ⊢
   have hb : b = .none := by cases b <;> first | rfl | exact absurd rfl hne
   subst hb
   have rv : v = .none := by have : VR _ _ _ _ _ _ := rv; exact this
   refine ⟨rv, .ref U.length, U'', (x, some dx) :: g', rfl, ?_, kp0.trans hfr kp', by rw [List.append_cons]; exact L3, ?_⟩
   ·exact hfr.trans kp0.live hg'
   ·show VR _ _ _ _ _ _
    exact ⟨(x, some dx), by rw [<- L.len, List.append_cons, List.getElem?_append_left (by simp)]; simp, rfl⟩
  | .error e, hq =>
   obtain ⟨c, U', g', ea, e1, e2, hg', kp', L3, xr⟩ := hq
   rw [e2]
   refine ⟨c, U', (x, some dx) :: g', ea, e1, rfl, hfr.trans kp0.live hg', kp0.trans hfr kp', by rw [List.append_cons]; exact L3, ?_⟩
   rw [List.append_cons]
   exact xr.back fun a h => zw kp0.live h
 obtain ⟨hh, gg, dr, tk, os⟩ := s
 exact wpAny_call_obj_init PySem.F.objNew (L.base _ _ hC) (L.ns hN) hini (L.base _ _ hof) hoc key
theorem jT {β : Type} {k : Nat} {y : β} : ∀ {l : List (Nat × β)}, l.lookup k = some y -> (k, y) ∈ l
 | (k', y') :: l, h => by
  rw [List.lookup_cons] at h
  split at h
  ·rename_i e; cases h; rw [eq_of_beq e]; exact List.mem_cons_self
  ·exact List.mem_cons_of_mem _ (jT h)
theorem zLJ {n k : Nat} {ax dx : Addr} {ob o₁ : Obj} {mA : Str -> Option Value} {as : List (Nat × V)} {v' : V} {vv : Value} {h' : Heap} (hk : k < 2) (hf : f[n]? = some (ax, some dx)) (e2 : ob.cls = .ref S.book /\ ob.dict = some dx /\ (∀ c, ob.data ≠ .cls c) /\ dx ≠ ax)
  (e4 : ∀ k x, as.lookup k = some x -> ∃ w, mA (zQ k) = some w /\ VR S X f s.heap x w) (e5 : ∀ x v, mA x = some v -> x = zQ 0 \/ x = zQ 1) (e6 : ∀ k, k ∈ as.map (·.1) -> k < 2) (rv : VR S X f s.heap v' vv)
  (hs : ∀ b o, b ∉ Loc.addrs (ax, some dx) -> s.heap.get? b = some o -> h'.get? b = some o) (w1 : h'.get? ax = some o₁) (w2 : o₁.cls = ob.cls) (w3 : o₁.data = ob.data) (w5 : o₁.dict = some dx)
  (hns : h'.Ns1 dx (fun y => if y = zQ k then some vv else mA y)) : OR S X f h' (ax, some dx) (.inst ((k, v') :: as)) := by
 have kv : ∀ x v, VR S X f s.heap x v -> VR S X f h' x v := VR.keep (fun _ _ e => e) fun a o q h1 h2 => ⟨⟨h1, h2⟩, o, hs a o (fun z => h1 (zt hf z)) q, .refl o⟩
 refine ⟨o₁, _, w1, ⟨w2.trans e2.1, w5, fun c => by rw [w3]; exact e2.2.2.1 c, e2.2.2.2⟩, hns, fun j x hj => ?_, fun y v hy => ?_, fun j hj => ?_⟩
 ·rw [List.lookup_cons] at hj
  cases hjk : (j == k) with
  | true =>
   rw [hjk] at hj
   cases hj
   obtain rfl : j = k := eq_of_beq hjk
   exact ⟨vv, if_pos rfl, kv _ _ rv⟩
  | false =>
   rw [hjk] at hj
   obtain ⟨w, hw, hr⟩ := e4 j x hj
   refine ⟨w, ?_, kv _ _ hr⟩
   have hj2 : j < 2 := e6 j (List.mem_map_of_mem (f := (·.1)) (jT hj))
   have hjn : zQ j ≠ zQ k := by
    have hne : j ≠ k := fun q => by rw [q] at hjk; simp at hjk
    clear hj hjk hr e4 e5 e6 hns
    match j, k, hj2, hk, hne with
    | 0, 0, _, _, h => exact absurd rfl h
    | 0, 1, _, _, _ => decide
    | 1, 0, _, _, _ => decide
    | 1, 1, _, _, h => exact absurd rfl h
   exact (if_neg hjn).trans hw
 ·by_cases hyk : y = zQ k
  ·clear hy hns e4
   match k, hk, hyk with
   | 0, _, h => exact .inl h
   | 1, _, h => exact .inr h
  ·exact e5 y v ((if_neg hyk).symm.trans hy)
 ·rcases List.mem_cons.mp hj with rfl | hj
  ·exact hk
  ·exact e6 j hj
theorem zFi (B : zCx S C) {n k : Nat} {vo vv : Value} {v' : V} {as : List (Nat × V)} {Q : Unit -> Shared -> Prop} (hk : k < 2) (L : Lk S X f U s.heap) (ro : VR S X f s.heap (.ref n) vo) (hU : U[n]? = some (.inst as)) (rv : VR S X f s.heap v' vv)
  (h : ∀ h' tk, Lk S X f (U.set n (.inst ((k, v') :: as))) h' -> (∀ Y, Kp f Y s { s with heap := h', toks := tk }) -> Q () { s with heap := h', toks := tk }) : wpAny (model S.prog S.w) A (setAttr vo (zQ k) vv) Q E s := by
 obtain ⟨N, mN, nm, qn, bs, sn, sub, col, dd, k0, k1, k2, k3, k5, hC, hN, hqt, _⟩ := B
 obtain ⟨ax, dx, ob, mA, rfl, hf, e1, e2, e3, e4, e5, e6, I⟩ := zDI L ro hU
 have hna : mN (zQ k) = none := by
  match k, hk with
  | 0, _ => exact hqt.2.2.2.1
  | 1, _ => exact hqt.2.2.2.2
 have hB : typeLookup (.type "object") (zQ k) = pure none := by
  match k, hk with
  | 0, _ => exact zCi
  | 1, _ => exact zCj
 have hxC : ax ≠ S.book := fun z => by
  have h1 := L.fresh ax (zt hf List.mem_cons_self)
  rw [z, hC] at h1; cases h1
 have hsz : ([zQ 0, zQ 1] : List Str).length <= sizeLine := by show 2 <= sizeLine; decide
 have hw : Within mA [zQ 0, zQ 1] := fun y hy => by
  obtain ⟨v, hv⟩ := Option.ne_none_iff_exists'.mp hy
  rcases e5 y v hv with rfl | rfl
  ·exact List.mem_cons_self
  ·exact List.mem_cons_of_mem _ (List.mem_singleton.mpr rfl)
 have fin : ∀ h' tk', h'.Inst ax S.book (fun y => if y = zQ k then some vv else mA y) ->
   (∀ b o, b ≠ ax -> (∀ o0 d', s.heap.get? ax = some o0 -> o0.dict = some d' -> b ≠ d') -> s.heap.get? b = some o -> h'.get? b = some o) ->
   (∀ o0, s.heap.get? ax = some o0 -> ∃ o₁, h'.get? ax = some o₁ /\ o₁.cls = o0.cls /\ o₁.data = o0.data /\ o₁.slots = o0.slots /\ ∀ d', o0.dict = some d' -> o₁.dict = some d') -> Q () { s with heap := h', toks := tk' } := fun h' tk' I' hkeep hsame => by
  have hs' : ∀ b o, b ∉ Loc.addrs (ax, some dx) -> s.heap.get? b = some o -> h'.get? b = some o := fun b o hb e =>
   hkeep b o (fun z => hb (by rw [z]; exact List.mem_cons_self)) (fun o0 d' q1 q2 z => hb (by
    rw [e1] at q1; cases q1; rw [e2.2.1] at q2; cases q2
    rw [z]; exact List.mem_cons_of_mem _ (List.mem_singleton.mpr rfl))) e
  obtain ⟨o₁, w1, w2, w3, _, w5⟩ := hsame ob e1
  obtain ⟨o', q1, q2, q3, q4⟩ := I'
  rw [w1] at q1; cases q1
  have hns : h'.Ns1 dx (fun y => if y = zQ k then some vv else mA y) := by
   rcases q4 with ⟨q5, _⟩ | ⟨d', q5, _, q6⟩
   ·rw [w5 dx e2.2.1] at q5; first | exact zB q5 | exact zF q5 | cases q5
   ·rw [w5 dx e2.2.1] at q5; cases q5; exact q6
  have hlive : ∀ b ∈ Loc.addrs (ax, some dx), ∃ o, h'.get? b = some o := fun b hb => by
   rcases List.mem_cons.mp hb with rfl | hb
   ·exact ⟨_, w1⟩
   ·rw [List.mem_singleton.mp hb]; exact let ⟨o, _, _, e, _⟩ := hns; ⟨o, e⟩
  exact h h' tk' (L.upd hf hs' (zLJ hk hf e2 e4 e5 e6 rv hs' w1 w2 w3 (w5 dx e2.2.1) hns)) fun Y => Kp.upd hf hs' hlive
 have L1 := L.base _ _ hC
 have L2 := L.ns hN
 clear e4 e5 e6 e3 h ro rv L
 obtain ⟨hh, gg, dr, tk, os⟩ := s
 exact store_attr PySem.F.store_object L1 L2 hqt.2.2.1 hna hB hxC I fin hw hsz
theorem zFX (fs : zW S C T) {o e : Expr} {a c : CE} {m : Str} {k : Nat} {p' pos : Pos} (hm : C.attrs.lookup m = some k) (ho : EOk S F q d H sc o a) (h : EOk S F q d H sc e c) (hs : ∀ env n t, swapsWith e t n env = pure false) :
  SOk S F Fq q d H sc (.Assign [.Attribute o m p'] e pos) (.setAttr a k c) := fun env J f X U s A st fw hne => by
 rw [zCv] at hne ⊢
 rcases fs.book with ⟨_, _, h0⟩ | ⟨hat, B⟩
 ·rw [h0] at hm; first | exact zB hm | exact zF hm | cases hm
 rw [hat] at hm
 obtain ⟨hk, rfl⟩ := zBF hm
 refine plainObj_wpAny_Assign_Attribute ?_ (hs _ _ _)
 refine Sim.goS (H := H) (sc := sc) (h env J f X U s A st) hne (fun _ _ x => x) (fun _ _ x => x) fun vv v' U1 g₁ s₁ hne hg kk L rv hQ hE => ?_
 have st₁ := st.keep hg kk L
 refine Sim.goS (H := H) (sc := sc) (ho env J _ X U1 s₁ A st₁) hne hQ hE fun vo o' U2 g₂ s₂ hne hg₂ k₂ L₂ ro hQ hE => ?_
 have st₂ := st₁.keep hg₂ k₂ L₂
 have rv2 := VR.keepK k₂ hg₂ (fun _ h => nomatch h) rv
 cases o' with
 | ref n =>
  have hd0 : kO U2 (.ref n) k v' = kG U2 n k v' U2[n]? := rfl
  rw [hd0] at hne hQ
  cases hU : U2[n]? with
  | none => rw [hU] at hne; exact absurd rfl hne
  | some obj =>
   rw [hU] at hne hQ
   cases obj with
   | inst as =>
    have hd : kG U2 n k v' (some (.inst as)) = .ok () (U2.set n (.inst ((k, v') :: as))) := if_pos hk
    rw [hd] at hQ
    refine zFi B hk L₂ ro hU rv2 fun h' tk L3 kp3 => hQ _ _ ⟨.next J, _, [], rfl, .nil _, kp3 _, by rw [List.append_nil]; exact L3, rfl, ?_⟩
    have := st₂.fr.keep (g := []) st₂.lk (kp3 []) (.nil _)
    exact this
   | _ => exact absurd rfl hne
 | _ => exact absurd rfl hne
end
end Mine
end

section
namespace Mine
open PySem PyProof.Rows
section
variable {S : zO} {C : Ctx} {T : Nat -> Option Fn} {F Fq : Calls} {q : Bool} {d : Nat} {H : List Str} {sc : Scope}
variable {X X' Y Z : List Addr} {f g : List Loc} {U : Sto} {s s' : Shared} {A : Around} {E : Value -> Shared -> Prop} {env : Env} {J : List V}
theorem zEh (fs : zW S C T) (L : Lk S X f U s.heap) : (s.heap.objs.size == sysModules) = false := by
 obtain ⟨mg, mb, ⟨o, es, ep, ho, _⟩, _⟩ := fs.g
 have := Heap.lt_size (L.base _ _ ho)
 exact beq_false_of_ne fun q => absurd (q ▸ this : mainGlobals < sysModules) (by decide)
theorem zDx (hy : (s.heap.objs.size == sysModules) = false) (L : Lk S X f U s.heap) : Ext s { s with heap := s.heap.push { cls := .type "dict", data := .dict #[] } } /\ Fresh [(s.heap.objs.size, none)] s /\
  Lk S X (f ++ [(s.heap.objs.size, none)]) (U ++ [.dict []]) (s.heap.push { cls := .type "dict", data := .dict #[] }) := by
 have hn : s.heap.get? s.heap.objs.size = none := Heap.get?_none_of_le (Nat.le_refl _)
 have hl : (s.heap.push { cls := .type "dict", data := .dict #[] }).get? s.heap.objs.size = some { cls := .type "dict", data := .dict #[] } := Heap.get?_push_size _ rfl
 have ex : Ext s { s with heap := s.heap.push { cls := .type "dict", data := .dict #[] } } := ⟨rfl, fun b o e => Heap.get?_push_of_some _ e⟩
 refine ⟨ex, fun a ha => by rw [List.mem_singleton.mp ha]; exact hn, ?_⟩
 have L1 : Lk S (s.heap.objs.size :: X) f U (s.heap.push { cls := .type "dict", data := .dict #[] }) := L.hideNew ex hn hl
 exact Lk.track (l := (s.heap.objs.size, none)) L1 (List.nodup_cons.mpr ⟨fun h => (nomatch h), .nil⟩) (fun a ha hX => by
  rw [List.mem_singleton.mp ha] at hX
  obtain ⟨o, e⟩ := (L.hid _ hX).2.2
  rw [hn] at e; cases e) ⟨[], Even.new, rfl, by rw [List.map_nil, List.map_nil]; exact True.intro, Nat.zero_le _, hy⟩
theorem zKW (fs : zW S C T) {pos : Pos} : EOk S F q d H sc (.Dict [] [] pos) .dict0 := fun env J f X U s A st hne => by
 rw [zME]
 obtain ⟨ex, hg, L⟩ := zDx (zEh fs st.lk) st.lk
 refine wpAny_Dict_empty ⟨.ref U.length, _, _, rfl, hg, ex.kp _ _, L, ?_⟩
 show VR _ _ _ _ _ _
 exact ⟨(s.heap.objs.size, none), by rw [<- st.lk.len]; simp, rfl⟩
theorem zKX (fs : zW S C T) {k v : Expr} {a b : CE} {pos : Pos} (hk : EOk S F q d H sc k a) (hv : EOk S F q d H sc v b) : EOk S F q d H sc (.Dict [some k] [v] pos) (.dict1 a b) := fun env J f X U s A st hne => by
 rw [zDZ] at hne ⊢
 obtain ⟨ex, hg, L⟩ := zDx (zEh fs st.lk) st.lk
 have kp0 := ex.kp f []
 have st0 := st.keep hg kp0 L
 have hlen : (f ++ [(s.heap.objs.size, none)])[U.length]? = some (s.heap.objs.size, none) := by rw [<- st.lk.len]; simp
 refine zJX (knd := intKind S.prog S.w) ?_
 refine evalPairs_cons ?_
 refine Sim.goQ (P' := PV S X) (hk env J _ X _ _ A st0) hne (fun c s'' x => QS.lifts f _ s _ _ c s'' hg kp0 x) (fun c s'' x => ES.lifts f _ s _ _ c s'' hg kp0 x) fun vk k' U1 g₁ s₁ hne hg1 k₁ L₁ rk hQ hE => ?_
 have st₁ := st0.keep hg1 k₁ L₁
 refine wpAny_bind (Sim.goQ (P' := PV S X) (hv env J _ X U1 s₁ A st₁) hne hQ hE fun vv v' U2 g₂ s₂ hne hg₂ k₂ L₂ rv hQ hE => wpAny_bind (wpAny_standAt (wpAny_pure (evalPairs_nil ?_))))
 have hf₂ : (f ++ [(s.heap.objs.size, none)] ++ g₁ ++ g₂)[U.length]? = some (s.heap.objs.size, none) := by
  have h1 : U.length < (f ++ [(s.heap.objs.size, none)]).length := (List.getElem?_eq_some_iff.mp hlen).1
  rw [List.append_assoc, List.getElem?_append_left h1]; exact hlen
 cases k' with
 | int ki =>
  have hd0 : zC7 U.length U2 (.int ki) v' = zC5 U.length U2 ki v' U2[U.length]? := rfl
  rw [hd0] at hne hQ
  cases hU : U2[U.length]? with
  | none => rw [hU] at hne; exact absurd rfl hne
  | some ob =>
   rw [hU] at hne hQ
   cases ob with
   | dict es =>
    cases es with
    | nil =>
     obtain ⟨kvs, hd, e1, _, _, hy⟩ := zLa L₂ hf₂ hU
     obtain rfl : kvs = [] := List.map_eq_nil_iff.mp e1
     obtain ⟨t, rfl⟩ := zy rk
     refine ⟨_, vv, ki, rfl, by show Value.isInt ki (.int ki t) = true; simp [Value.isInt], hd, fun h' hd' hs => ?_⟩
     obtain ⟨L3, k3⟩ := zEt (es' := [(ki, v')]) (t := s₂.toks + 1) L₂ hf₂ hs hd' rfl ⟨rv, trivial⟩ (by show 1 <= 1048576; decide) hy
     refine hQ _ _ ⟨.ref U.length, _, [], rfl, .nil _, k3 [], by rw [List.append_nil]; exact L3, ?_⟩
     show VR _ _ _ _ _ _
     rw [List.append_nil]
     exact ⟨_, hf₂, rfl⟩
    | cons _ _ => exact absurd rfl hne
   | _ => exact absurd rfl hne
 | _ => exact absurd rfl hne
end
end Mine
end

section
namespace Mine
open PySem PyProof.Rows
section
variable {S : zO} {C : Ctx} {T : Nat -> Option Fn} {F Fq : Calls} {q : Bool} {d : Nat}
theorem GOk.of {H : List Str} {sc : Scope} {e : Expr} {c : CE} (h : EOk S F q d H sc e c) (he : ∀ env whole, isTrue e env whole = (do let v <- whole; standAt e.pos; holding [v] (PySem.truthy v))) (hs : isStar e = false) (hm : ∀ op, behindInMarks op e = false) (hf : ∀ env x, foldedSetIterable e env x = pure x) : GOk S F q d H sc e c :=
 ⟨h, .plain h he, hs, hm, hf⟩
theorem zHV {ops : List CmpOp} {os : List P2} (h : ops.mapM wN = some os) : All2 (fun op o => wN op = some o) ops os := by
 induction ops generalizing os with
 | nil => simp at h; subst h; exact .nil
 | cons op ops ih =>
  simp only [List.mapM_cons] at h
  cases h1 : wN op with
  | none => first | (rw [h1] at h; exact zB h) | simp [h1] at h
  | some o =>
   cases h2 : ops.mapM wN with
   | none => first | (rw [h1, h2] at h; exact zB h) | (rw [h1, Option.bind_some, h2] at h; exact zB h) | simp [h1, h2] at h
   | some os' =>
    simp [h1, h2] at h
    subst h
    exact .cons h1 (ih h2)
structure Clean (C : Ctx) : Prop where
 dbg : C.fns.lookup ("__debug__" : Str) = none
 isin : C.fns.lookup ("isinstance" : Str) = none
 rng : C.fns.lookup ("range" : Str) = none
theorem Clean.nd (cl : Clean C) {x : Str} {n : Nat} (h : C.fns.lookup x = some n) : (x == ("__debug__" : Str)) = false := by
 cases e : (x == ("__debug__" : Str)) with
 | false => rfl
 | true => rw [eq_of_beq e, cl.dbg] at h; first | exact zB h | exact zF h | cases h
theorem zNk (fs : zW S C T) {H : List Str} {sc : Scope} {x : Str} {pos : Pos} {c : CE} (h : zF5 C H sc x = some c) : GOk S F q d H sc (.Name x pos) c :=
 .of (zL5 fs h) (fun _ _ => rfl) rfl (fun _ => rfl) fun _ _ => rfl
theorem wV {H : List Str} {sc : Scope} {f : Expr} {es : List Expr} {pos : Pos} {c : CE} (h : EOk S F q d H sc (.Call f es [] pos) c) : GOk S F q d H sc (.Call f es [] pos) c :=
 .of h (fun _ _ => rfl) rfl (fun _ => rfl) fun _ _ => rfl
theorem zMa {H : List Str} {sc : Scope} {o i : Expr} {pos : Pos} {c : CE} (h : EOk S F q d H sc (.Subscript o i pos) c) : GOk S F q d H sc (.Subscript o i pos) c :=
 .of h (fun _ _ => rfl) rfl (fun _ => rfl) fun _ _ => rfl
noncomputable def zOi (S : zO) (F : Calls) (q : Bool) (d : Nat) (H : List Str) (sc : Scope) (ifs : List Expr) (cond : Option CE) : Prop := (ifs = [] /\ cond = none) \/ ∃ e c, ifs = [e] /\ cond = some c /\ TOk S F q d H sc e c
noncomputable def zOn (S : zO) (F : Calls) (q : Bool) (d : Nat) (H : List Str) (sc : Scope) (o : Option Expr) (c : Option CE) : Prop := (o = none /\ c = none) \/ ∃ e' c', o = some e' /\ c = some c' /\ EOk S F q d H sc e' c'
section
variable {rec : List Str -> Scope -> Expr -> Option CE}
theorem zAk (hr : ∀ H sc e c, rec H sc e = some c -> GOk S F q d H sc e c) {H : List Str} {sc : Scope} : ∀ {es : List Expr} {cs : List CE}, cL rec H sc es = some cs -> All2 (GOk S F q d H sc) es cs
 | [], cs, h => by cases h; exact .nil
 | e :: es, cs, h => by
  unfold cL at h
  split at h
  ·first | exact zB h | exact zF h | cases h
  ·simp only [Option.bind_eq_some_iff, Option.map_eq_some_iff] at h
   obtain ⟨a, ha, as, has, rfl⟩ := h
   exact .cons (hr H sc e a ha) (zAk hr has)
theorem zF6 (hr : ∀ H sc e c, rec H sc e = some c -> GOk S F q d H sc e c) {H : List Str} {sc : Scope} {o : Option Expr} {c : Option CE} (h : zNQ rec H sc o = some c) : zOn S F q d H sc o c := by
 cases o with
 | none => cases h; exact .inl ⟨rfl, rfl⟩
 | some e =>
  have h : (rec H sc e).map some = some c := h
  simp only [Option.map_eq_some_iff] at h
  obtain ⟨a, ha, rfl⟩ := h
  exact .inr ⟨e, a, rfl, rfl, (hr H sc e a ha).eo⟩
theorem zNP (hr : ∀ H sc e c, rec H sc e = some c -> GOk S F q d H sc e c) {H : List Str} {sc : Scope} {o : List Expr} {c : Option CE} (h : cIf rec H sc o = some c) : zOi S F q d H sc o c := by
 match o, h with
 | [], h => cases h; exact .inl ⟨rfl, rfl⟩
 | [e], h =>
  have h : (rec H sc e).map some = some c := h
  simp only [Option.map_eq_some_iff] at h
  obtain ⟨a, ha, rfl⟩ := h
  exact .inr ⟨e, a, rfl, rfl, (hr H sc e a ha).to⟩
 | _ :: _ :: _, h => cases h
theorem zG8 {H : List Str} {sc : Scope} {k : Const} {n : Nat} {pos : Pos} {c : CE} (h : zJK k = some c) : GOk S F q d H sc (.Constant k n pos) c := by
 cases k with
 | none => cases h; exact .of zL6 (fun _ _ => rfl) rfl (fun _ => rfl) fun _ _ => rfl
 | bool b => cases h; exact .of zL1 (fun _ _ => rfl) rfl (fun _ => rfl) fun _ _ => rfl
 | int i => cases h; exact .of zN7 (fun _ _ => rfl) rfl (fun _ => rfl) fun _ _ => rfl
 | str s =>
  have h : (if s.length <= 1000 && PyData.strOk s then some (CE.lit (.str s)) else none) = some c := h
  split at h
  ·rename_i hs; cases h; exact .of (zKc hs) (fun _ _ => rfl) rfl (fun _ => rfl) fun _ _ => rfl
  ·first | exact zB h | exact zF h | cases h
 | _ => first | exact zB h | exact zF h | cases h
theorem zLV (fs : zW S C T) (hr : ∀ H sc e c, rec H sc e = some c -> GOk S F q d H sc e c) {H : List Str} {sc : Scope} {a : Expr} {ops : List CmpOp} {cs : List Expr} {pos : Pos} {c : CE} (h : zNM rec H sc a ops cs = some c) : GOk S F q d H sc (.Compare a ops cs pos) c := by
 unfold zNM at h
 split at h
 ·first | exact zB h | exact zF h | cases h
 rename_i hlen
 have hlen : ops.length = cs.length := by simpa using hlen
 split at h
 ·simp only [Option.bind_eq_some_iff, Option.map_eq_some_iff] at h
  obtain ⟨o, ho, x, hx, y, hy, rfl⟩ := h
  have g2 := hr H sc _ y hy
  have g := zN4 (pos := pos) fs ho (g2.marks _) (hr H sc a x hx).eo g2.eo
  exact ⟨g, .cmp1 (g2.marks _) g, rfl, fun _ => rfl, fun _ _ => rfl⟩
 ·simp only [Option.bind_eq_some_iff, Option.map_eq_some_iff] at h
  obtain ⟨os, ho, x, hx, ys, hy, rfl⟩ := h
  have g := zKU (pos := pos) fs (hr H sc a x hx).eo (zHV ho) (zAk hr hy) hlen
  exact ⟨g.1, g.2, rfl, fun _ => rfl, fun _ _ => rfl⟩
theorem zF7 (fs : zW S C T) (cl : Clean C) (hr : ∀ H sc e c, rec H sc e = some c -> GOk S F q d H sc e c) {H : List Str} {sc : Scope} {e : Expr} {k : SK} {cs : List CE} (h : zJQ rec H sc e = some (k, cs)) : zAj S F q d H sc e k cs := by
 have hv : Option.map (fun a => (SK.val, [a])) (rec H sc e) = some (k, cs) -> zAj S F q d H sc e k cs := fun h => by
  simp only [Option.map_eq_some_iff] at h
  obtain ⟨a, ha, e'⟩ := h
  cases e'
  exact zMA (hr H sc e a ha)
 unfold zJQ at h
 split at h
 ·rename_i fn args kws hc
  obtain ⟨pc, rfl⟩ := callParts?_eq hc
  split at h
  ·rename_i f hn
   obtain ⟨p, rfl⟩ := nameOf?_eq hn
   split at h
   ·rename_i hf
    obtain rfl := eq_of_beq hf
    split at h
    ·rename_i hg
     simp only [Bool.and_eq_true, List.isEmpty_iff] at hg
     obtain ⟨hg, rfl⟩ := hg
     simp only [Option.bind_eq_some_iff] at h
     obtain ⟨es, hes, h⟩ := h
     have ga := zAk hr hes
     split at h
     ·cases h; exact zI2 fs hg cl.rng ga (.inl ⟨rfl, rfl⟩)
     ·first | exact zB h | exact zF h | cases h
    ·first | exact zB h | exact zF h | cases h
   ·exact hv h
  ·exact hv h
 ·exact hv h
theorem zDn (fs : zW S C T) (cl : Clean C) (hr : ∀ H sc e c, rec H sc e = some c -> GOk S F q d H sc e c) {H : List Str} {sc scope : Scope} {elt : Expr} {gens : List Comprehension} {c : CE} (h : zDm rec H sc elt gens scope = some c) :
  ∃ x px iter ifs ce cond k cs, gens = [⟨.Name x px, iter, ifs, 0⟩] /\ vF H sc scope x /\ zAj S F q d H sc iter k cs /\ zOi S F q d (H ++ [x]) scope ifs cond /\ EOk S F q d (H ++ [x]) scope elt ce /\ c = .comp ce k cs cond := by
 unfold zDm at h
 split at h
 ·rename_i g
  obtain ⟨tgt, iter, ifs, n⟩ := g
  simp only [Option.bind_eq_some_iff] at h
  obtain ⟨x, hx, h⟩ := h
  obtain ⟨px, rfl⟩ := nameOf?_eq hx
  split at h
  ·first | exact zB h | exact zF h | cases h
  ·rename_i hok
   simp only [Bool.or_eq_true, not_or, Bool.not_eq_true, bne_eq_false_iff_eq, Bool.not_eq_false'] at hok
   obtain ⟨rfl, hok⟩ := hok
   simp only [Option.bind_eq_some_iff, Option.map_eq_some_iff] at h
   obtain ⟨⟨k, cs⟩, h1, cond, h2, ce, h3, rfl⟩ := h
   exact ⟨x, px, iter, ifs, ce, cond, k, cs, rfl, zHC hok, zF7 fs cl hr h1, zNP hr h2, (hr _ scope elt ce h3).eo, rfl⟩
 ·first | exact zB h | exact zF h | cases h
theorem zLY (fs : zW S C T) (hr : ∀ H sc e c, rec H sc e = some c -> GOk S F q d H sc e c) {H : List Str} {sc : Scope} {o i : Expr} {pos : Pos} {c : CE} (h : zNR C rec H sc o i pos = some c) : GOk S F q d H sc (.Subscript o i pos) c := by
 unfold zNR at h
 split at h
 ·rename_i lo hi hs
  obtain ⟨p, rfl⟩ := sliceParts?_eq hs
  simp only [Option.bind_eq_some_iff, Option.map_eq_some_iff] at h
  obtain ⟨a, ha, l, hl, u, hu, rfl⟩ := h
  exact zMa (kJ (zKa (hr H sc o a ha).eo (zF6 hr hl) (zF6 hr hu)))
 ·simp only [Option.bind_eq_some_iff, Option.map_eq_some_iff] at h
  obtain ⟨a, ha, b, hb, rfl⟩ := h
  exact zMa (zKY fs (hr H sc o a ha).eo (hr H sc i b hb).eo)
theorem zG9 (hr : ∀ H sc e c, rec H sc e = some c -> GOk S F q d H sc e c) {H : List Str} {sc : Scope} {o : Expr} {m : Str} {apos pos : Pos} {args : List Expr} {c : CE} (h1 : noSuper o = true) (h2 : (apos.endLine == pos.line) = true) (h : zE4 rec H sc o m args = some c) : GOk S F q d H sc (.Call (.Attribute o m apos) args [] pos) c := by
 unfold zE4 at h
 split at h
 ·split at h
  ·first | exact zB h | exact zF h | cases h
  rename_i hx
  split at h
  ·rename_i hm
   simp only [Option.bind_eq_some_iff, Option.map_eq_some_iff] at h
   obtain ⟨a, ha, b, hb, rfl⟩ := h
   obtain rfl := eq_of_beq hm
   exact wV (zIt h1 h2 (by simpa using hx) (hr H sc o a ha).eo (hr H sc _ b hb).eo)
  ·simp only [Option.bind_eq_some_iff, Option.map_eq_some_iff] at h
   obtain ⟨p, hp, a, ha, b, hb, rfl⟩ := h
   exact wV (zPe hp h1 h2 (by simpa using hx) (hr H sc o a ha).eo (hr H sc _ b hb).eo)
 ·
  split at h
  ·rename_i hm
   obtain ⟨a, ha, rfl⟩ := Option.map_eq_some_iff.mp h
   obtain rfl := eq_of_beq hm
   exact wV (zKV h1 h2 (hr H sc o a ha).eo)
  exact zB h
 ·first | exact zB h | exact zF h | cases h
theorem zJO (fs : zW S C T) (FSs : FS S F q d) (hr : ∀ H sc e c, rec H sc e = some c -> GOk S F q d H sc e c) {H : List Str} {sc : Scope} {o : Expr} {m : Str} {apos pos : Pos} {args : List Expr} {c : CE} (hlen : args.length <= 20) (h : zJN C rec H sc o m apos args pos = some c) : GOk S F q d H sc (.Call (.Attribute o m apos) args [] pos) c := by
 unfold zJN at h
 split at h
 ·first | exact zB h | exact zF h | cases h
 rename_i hc
 simp only [Bool.or_eq_true, not_or, Bool.not_eq_true, Bool.not_eq_false', bne_eq_false_iff_eq] at hc
 have h1 : noSuper o = true := by simpa using hc.1
 have h2 : (apos.endLine == pos.line) = true := by simpa using hc.2
 split at h
 ·rename_i n hn
  simp only [Option.bind_eq_some_iff, Option.map_eq_some_iff] at h
  obtain ⟨a, ha, es, hes, rfl⟩ := h
  exact wV (zKT fs FSs hn h1 h2 hlen (hr H sc o a ha).eo (zAk hr hes))
 exact zG9 hr h1 h2 h
theorem zLW (fs : zW S C T) (FSs : FS S F q d) (cl : Clean C) (hr : ∀ H sc e c, rec H sc e = some c -> GOk S F q d H sc e c) {H : List Str} {sc : Scope} {f : Str} {args : List Expr} {p pos : Pos} {c : CE} (h : zNO C rec H sc f args pos = some c) : GOk S F q d H sc (.Call (.Name f p) args [] pos) c := by
 unfold zNO at h
 split at h
 ·first | exact zB h | exact zF h | cases h
 rename_i hg
 have hg : isGlob sc f = true := by simpa using hg
 split at h
 ·rename_i hf
  obtain rfl := eq_of_beq hf
  unfold zF4 at h
  split at h
  ·split at h
   ·first | exact zB h | exact zF h | cases h
   rename_i hx
   simp only [Option.bind_eq_some_iff] at h
   obtain ⟨kn, hkn, h⟩ := h
   obtain ⟨pk, rfl⟩ := nameOf?_eq hkn
   split at h
   ·rename_i hgk
    split at h
    ·rename_i kd hk
     obtain ⟨a, ha, rfl⟩ := Option.map_eq_some_iff.mp h
     exact wV (zIu fs hg cl.isin hk hgk (by simpa using hx) (hr H sc _ a ha).eo)
    ·exact zB h
   ·first | exact zB h | exact zF h | cases h
  ·first | exact zB h | exact zF h | cases h
 ·simp only [Option.bind_eq_some_iff] at h
  obtain ⟨es, hes, h⟩ := h
  have ga := zAk hr hes
  split at h
  ·rename_i n hn
   cases h
   exact wV (zL2 fs FSs hg (cl.nd hn) hn ga)
  ·rename_i hn
   split at h
   ·rename_i hbk
    simp only [Bool.and_eq_true] at hbk
    obtain rfl := eq_of_beq hbk.2
    split at h
    ·rename_i hem
     cases h
     have hnil : es = [] := List.isEmpty_iff.mp hem
     subst hnil
     cases ga
     exact wV (zN9 fs FSs hbk.1 hg)
    ·first | exact zB h | exact zF h | cases h
   split at h
   ·simp only [Option.map_eq_some_iff] at h
    obtain ⟨o, ho, h⟩ := h
    cases ga with
    | cons g1 gs =>
     cases gs
     split at h
     ·subst h; exact wV (kJ (zMf fs hg hn ho g1))
     ·subst h; exact wV (zMf fs hg hn ho g1).eok
   ·simp only [Option.map_eq_some_iff] at h
    obtain ⟨o, ho, rfl⟩ := h
    cases ga with
    | cons g1 gs =>
     cases gs with
     | cons g2 gs =>
      cases gs
      exact wV (zPc fs hg hn ho g1.star g2.star g1.eo g2.eo)
   ·first | exact zB h | exact zF h | cases h
theorem zJJ (fs : zW S C T) (FSs : FS S F q d) (cl : Clean C) (hr : ∀ H sc e c, rec H sc e = some c -> GOk S F q d H sc e c) {H : List Str} {sc : Scope} {fn : Expr} {args : List Expr} {kws : List Keyword} {pos : Pos} {c : CE} (h : zJI C rec H sc fn args kws pos = some c) : GOk S F q d H sc (.Call fn args kws pos) c := by
 unfold zJI at h
 split at h
 ·first | exact zB h | exact zF h | cases h
 rename_i hk
 simp only [Bool.or_eq_true, not_or, Bool.not_eq_true, Bool.not_eq_false', List.isEmpty_iff] at hk
 obtain ⟨rfl, hk⟩ := hk
 split at h
 ·rename_i o m apos ha
  obtain rfl := attrParts?_eq ha
  exact zJO fs FSs hr (by simpa using hk) h
 ·simp only [Option.bind_eq_some_iff] at h
  obtain ⟨f, hf, h⟩ := h
  obtain ⟨p, rfl⟩ := nameOf?_eq hf
  exact zLW fs FSs cl hr h
theorem zJL (fs : zW S C T) (hr : ∀ H sc e c, rec H sc e = some c -> GOk S F q d H sc e c) {H : List Str} {sc : Scope} {ks : List (Option Expr)} {vs : List Expr} {pos : Pos} {c : CE} (h : zMM rec H sc ks vs = some c) : GOk S F q d H sc (.Dict ks vs pos) c := by
 cases vs with
 | nil =>
  cases ks with
  | nil => cases h; exact .of (zKW fs) (fun _ _ => rfl) rfl (fun _ => rfl) fun _ _ => rfl
  | cons _ _ => first | exact zB h | exact zF h | cases h
 | cons v vs =>
  cases vs with
  | cons _ _ => first | exact zB h | exact zF h | cases h
  | nil =>
   match ks, h with
   | [], h => cases h
   | _ :: _ :: _, h => cases h
   | [none], h => cases h
   | [some k], h =>
    have h : ((rec H sc k).bind fun a => (rec H sc v).map fun b => CE.dict1 a b) = some c := h
    obtain ⟨a, ha, h⟩ := Option.bind_eq_some_iff.mp h
    obtain ⟨b, hb, rfl⟩ := Option.map_eq_some_iff.mp h
    exact .of (zKX fs (hr H sc _ a ha).eo (hr H sc _ b hb).eo) (fun _ _ => rfl) rfl (fun _ => rfl) fun _ _ => rfl
theorem zKo (fs : zW S C T) (FSs : FS S F q d) (cl : Clean C) (hr : ∀ H sc e c, rec H sc e = some c -> GOk S F q d H sc e c) {H : List Str} {sc : Scope} {e : Expr} {c : CE} (h : zMn C rec H sc e = some c) : GOk S F q d H sc e c := by
 cases e with
 | Constant k n pos => exact zG8 h
 | Name x pos => exact zNk fs h
 | BoolOp op vs pos =>
  have h : ((cL rec H sc vs).bind fun es => vI (op == .And) es) = some c := h
  simp only [Option.bind_eq_some_iff] at h
  obtain ⟨es, h1, h2⟩ := h
  have := zKS (pos := pos) (zAk hr h1) h2
  exact ⟨this.1, this.2, rfl, fun _ => rfl, fun _ _ => rfl⟩
 | BinOp l op r pos =>
  have h : ((zBv op).bind fun o => (rec H sc l).bind fun a => (rec H sc r).map fun b => vE C pos (.p2 o a b)) = some c := h
  simp only [Option.bind_eq_some_iff, Option.map_eq_some_iff] at h
  obtain ⟨o, ho, a, ha, b, hb, rfl⟩ := h
  exact .of (kJ (zKR ho (hr H sc l a ha).eo (hr H sc r b hb).eo)) (fun _ _ => rfl) rfl (fun _ => rfl) fun _ _ => rfl
 | UnaryOp op x pos =>
  cases op with
  | Not =>
   have h : (rec H sc x).map (.p1 .not) = some c := h
   simp only [Option.map_eq_some_iff] at h
   obtain ⟨a, ha, rfl⟩ := h
   have g := hr H sc x a ha
   exact ⟨zOB g.eo, g.to.not, rfl, fun _ => rfl, fun _ _ => rfl⟩
  | USub =>
   have h : (rec H sc x).map (.p1 .neg) = some c := h
   simp only [Option.map_eq_some_iff] at h
   obtain ⟨a, ha, rfl⟩ := h
   exact .of (zN8 (hr H sc x a ha).eo) (fun _ _ => rfl) rfl (fun _ => rfl) fun _ _ => rfl
  | UAdd => first | exact zB h | exact zF h | cases h
  | Invert => first | exact zB h | exact zF h | cases h
 | Compare a ops cs pos => exact zLV fs hr h
 | List es pos =>
  have h : (if es.length <= 1000 then (cL rec H sc es).map fun es => vE C pos (.list es) else none) = some c := h
  split at h
  ·rename_i hl
   simp only [Option.map_eq_some_iff] at h
   obtain ⟨cs, h1, rfl⟩ := h
   exact .of (kJ (zL4 hl (zAk hr h1))) (fun _ _ => rfl) rfl (fun _ => rfl) fun _ _ => rfl
  ·first | exact zB h | exact zF h | cases h
 | Tuple es k pos =>
  have h : (if es.length <= 1000 then (cL rec H sc es).map .tup else none) = some c := h
  split at h
  ·rename_i hl
   simp only [Option.map_eq_some_iff] at h
   obtain ⟨cs, h1, rfl⟩ := h
   exact .of (zKd hl (zAk hr h1)) (fun _ _ => rfl) rfl (fun _ => rfl) fun _ _ => rfl
  ·first | exact zB h | exact zF h | cases h
 | ListComp elt gens scope pos =>
  have h : ((zDm rec H sc elt gens scope).map fun e => vE C pos e) = some c := h
  simp only [Option.map_eq_some_iff] at h
  obtain ⟨c', h', rfl⟩ := h
  obtain ⟨x, px, iter, ifs, ce, cond, k, cs, rfl, h1, h2, h3, h4, rfl⟩ := zDn fs cl hr h'
  exact .of (kJ (zGZ h1 h2 h3 h4)) (fun _ _ => rfl) rfl (fun _ => rfl) fun _ _ => rfl
 | Subscript o i pos => exact zLY fs hr h
 | Call fn args kws pos => exact zJJ fs FSs cl hr h
 | Attribute o m pos =>
  have h : ((C.attrs.lookup m).bind fun k => if noSuper o then (rec H sc o).map fun a => .attr a k else none) = some c := h
  simp only [Option.bind_eq_some_iff] at h
  obtain ⟨k, hk, h⟩ := h
  split at h
  ·rename_i hb
   simp only [Option.map_eq_some_iff] at h
   obtain ⟨a, ha, rfl⟩ := h
   exact .of (zL0 fs hk hb (hr H sc o a ha).eo) (fun _ _ => rfl) rfl (fun _ => rfl) fun _ _ => rfl
  ·first | exact zB h | exact zF h | cases h
 | Dict ks vs pos =>
  exact zJL fs hr h
 | _ => first | exact zB h | exact zF h | cases h
end
theorem zDo (fs : zW S C T) (FSs : FS S F q d) (cl : Clean C) : ∀ (n : Nat) (H : List Str) (sc : Scope) (e : Expr) (c : CE), cE C n H sc e = some c -> GOk S F q d H sc e c
 | 0, _, _, _, _, h => by cases h
 | n + 1, H, sc, e, c, h => zKo fs FSs cl (zDo fs FSs cl n) h
theorem zHN {e : Expr} (h : isComp e = true) : ∃ a b c p, e = .ListComp a b c p := by
 cases e with
 | ListComp => exact ⟨_, _, _, _, rfl⟩
 | Constant k n p => cases k <;> exact zF h
 | Slice l u st p => cases st <;> exact zF h
 | _ => exact zF h
theorem kR {n : Nat} {H : List Str} {sc : Scope} {e : Expr} {c : CE} (h : cE C n H sc e = some c) (hc : isComp e = false) : ∀ env n t, swapsWith e t n env = pure false := fun env _ t =>
 zKs hc (fun el gs sc p e' => by subst e'; cases n <;> cases h) (fun k v gs sc p e' => by subst e'; cases n <;> cases h)
section
variable {rec : Stmt -> CS} {H : List Str} {sc : Scope}
theorem kN (hr : ∀ s, SOk S F Fq q d H sc s (rec s)) : ∀ (ss : List Stmt), LSOk S F Fq q d H sc ss (ss.map rec)
 | [] => zOA
 | s :: ss => zL3 (hr s) (kN hr ss)
theorem zLU (fs : zW S C T) (FSs : FS S F q d) (cl : Clean C) {t e : Expr} {pos : Pos} {c : CS} (h : zNL C H sc t e = some c) : SOk S F Fq q d H sc (.Assign [t] e pos) c := by
 have hE := zDo (F := F) (q := q) (d := d) fs FSs cl xf
 unfold zNL at h
 split at h
 ·rename_i x hx
  obtain ⟨px, rfl⟩ := nameOf?_eq hx
  simp only [Option.bind_eq_some_iff, Option.map_eq_some_iff] at h
  obtain ⟨i, hi, a, ha, rfl⟩ := h
  cases hc : isComp e with
  | false => exact zN3 hi (hE H sc _ a ha).eo (kR ha hc)
  | true =>
   obtain ⟨elt, gens, scope, p, rfl⟩ := zHN hc
   have ha : ((zDm (cE C 29) H sc elt gens scope).map fun e => vE C p e) = some a := ha
   simp only [Option.map_eq_some_iff] at ha
   obtain ⟨c', h', rfl⟩ := ha
   obtain ⟨x, px, iter, ifs, ce, cond, k, cs, rfl, h1, h2, h3, h4, rfl⟩ := zDn fs cl (zDo fs FSs cl 29) h'
   refine zEU hi h1 h2 h3 h4 ?_
   unfold vE
   split
   ·exact .inr rfl
   ·exact .inl rfl
 ·split at h
  ·rename_i p hp
   obtain ⟨p', rfl⟩ := subParts?_eq hp
   split at h
   ·first | exact zB h | exact zF h | cases h
   ·rename_i hc
    simp only [Option.bind_eq_some_iff, Option.map_eq_some_iff] at h
    obtain ⟨v, hv, a, ha, b, hb, rfl⟩ := h
    exact zFY (hE H sc _ a ha).eo (hE H sc _ b hb).eo (hE H sc _ v hv).eo (kR hv (by simpa using hc))
  ·unfold zML at h
   split at h
   ·rename_i p hp
    obtain ⟨o, m, pa⟩ := p
    obtain rfl := attrParts?_eq hp
    simp only [Option.bind_eq_some_iff] at h
    obtain ⟨k, hk, h⟩ := h
    split at h
    ·first | exact zB h | exact zF h | cases h
    ·rename_i hc
     simp only [Option.bind_eq_some_iff, Option.map_eq_some_iff] at h
     obtain ⟨v, hv, b, hb, rfl⟩ := h
     exact zFX fs hk (hE H sc _ b hb).eo (hE H sc _ v hv).eo (kR hv (by simpa using hc))
   cases h
theorem zJR (fs : zW S C T) (FSs : FS S F q d) (cl : Clean C) {ss : List Stmt} {k : TK} {c : CE} (h : cTK C H sc ss = some (k, c)) : (∃ b₀ bs, ss = b₀ :: bs) /\ TKOk S F q d H sc ss k c := by
 have hE := zDo (F := F) (q := q) (d := d) fs FSs cl xf
 match ss, h with
 | [], h => cases h
 | _ :: _ :: _, h => cases h
 | [s], h =>
  refine ⟨⟨_, _, rfl⟩, ?_⟩
  have h : zO1 C H sc s = some (k, c) := h
  cases s with
  | Return v pos =>
   cases v with
   | none => first | exact zB h | exact zF h | cases h
   | some e =>
    obtain ⟨a, ha, e'⟩ := Option.map_eq_some_iff.mp h
    cases e'
    exact zOT (hE H sc _ _ ha).eo
  | Assign ts e pos =>
   match ts, h with
   | [], h => cases h
   | _ :: _ :: _, h => cases h
   | [t], h =>
    have h : (if isComp e = true then none else (nameOf? t).bind fun x => (yp H sc x).bind fun i => (cE C xf H sc e).map fun c => (TK.asg i, c)) = some (k, c) := h
    by_cases hcm : isComp e = true
    ·rw [if_pos hcm] at h; first | exact zB h | exact zF h | cases h
    rw [if_neg hcm] at h
    obtain ⟨x, hx, h⟩ := Option.bind_eq_some_iff.mp h
    obtain ⟨i, hi, h⟩ := Option.bind_eq_some_iff.mp h
    obtain ⟨a, ha, e'⟩ := Option.map_eq_some_iff.mp h
    cases e'
    obtain ⟨px, rfl⟩ := nameOf?_eq hx
    exact zOR hi (hE H sc _ _ ha).eo (kR ha (by simpa using hcm))
  | Expr e pos =>
   have h : (if isComp e = true then none else (cE C xf H sc e).map fun c => (TK.exp, c)) = some (k, c) := h
   by_cases hcm : isComp e = true
   ·rw [if_pos hcm] at h; first | exact zB h | exact zF h | cases h
   rw [if_neg hcm] at h
   obtain ⟨a, ha, e'⟩ := Option.map_eq_some_iff.mp h
   cases e'
   exact zOS (hE H sc _ _ ha).eo (kR ha (by simpa using hcm))
  | _ => first | exact zB h | exact zF h | cases h
theorem zF3 (fs : zW S C T) (FSq : FS S Fq true d) (cl : Clean C) : ∀ {hs : List ExceptHandler} {cs : List Hd}, zJM C H sc hs = some cs -> All2 (zMu S C Fq d H sc) hs cs
 | [], cs, h => by cases h; exact .nil
 | h₀ :: hs, cs, h => by
  have h : ((cHd C H sc h₀).bind fun a => (zJM C H sc hs).map fun as => a :: as) = some cs := h
  simp only [Option.bind_eq_some_iff, Option.map_eq_some_iff] at h
  obtain ⟨a, ha, as, has, rfl⟩ := h
  refine .cons ?_ (zF3 fs FSq cl has)
  unfold cHd at ha
  split at ha
  ·rename_i t n body pos
   simp only [Option.bind_eq_some_iff, Option.map_eq_some_iff] at ha
   obtain ⟨x, hx, k, hk, as, has, ⟨tk, c⟩, hp, rfl⟩ := ha
   obtain ⟨px, rfl⟩ := nameOf?_eq hx
   obtain ⟨⟨b₀, bs, rfl⟩, ht⟩ := zJR fs FSq cl hp
   refine ⟨x, px, n, b₀, bs, pos, rfl, hk, ?_, ht⟩
   cases n with
   | none => cases has; exact .inl ⟨rfl, rfl⟩
   | some y =>
    have has : (if sc.names.lookup y == some .local then (yp H sc y).map some else none) = some as := has
    split at has
    ·rename_i hl
     simp only [Option.map_eq_some_iff] at has
     obtain ⟨i, hi, rfl⟩ := has
     exact .inr ⟨y, i, rfl, rfl, eq_of_beq hl, hi⟩
    ·first | exact zB has | exact zF has | cases has
  ·first | exact zB ha | exact zF ha | cases ha
theorem zHA (fs : zW S C T) {e : Expr} {pos : Pos} {c : CS} (h : zJP C sc e = some c) : SOk S F Fq q d H sc (.Raise (some e) none pos) c := by
 obtain ⟨⟨fn, args, kws⟩, hc, h⟩ := Option.bind_eq_some_iff.mp h
 obtain ⟨cp, rfl⟩ := callParts?_eq hc
 clear hc
 match args, h with
 | [], h => cases h
 | _ :: _ :: _, h => cases h
 | [x], h =>
  have h2 : (if kws.isEmpty then (strC? x).bind fun s => (nameOf? fn).bind fun f => if s.length <= 1000 && PyData.strOk s then (zAm C sc f).map .raise else none else none) = some c := h
  by_cases hk0 : kws.isEmpty = true
  ·rw [if_pos hk0] at h2
   obtain ⟨m, hm, h3⟩ := Option.bind_eq_some_iff.mp h2
   obtain ⟨f, hf, h4⟩ := Option.bind_eq_some_iff.mp h3
   obtain ⟨kk, kp, rfl⟩ := strC?_eq hm
   obtain ⟨px, rfl⟩ := nameOf?_eq hf
   obtain rfl : kws = [] := List.isEmpty_iff.mp hk0
   by_cases hl : (m.length <= 1000 && PyData.strOk m) = true
   ·rw [if_pos hl] at h4
    obtain ⟨k, hk, rfl⟩ := Option.map_eq_some_iff.mp h4
    exact zKZ fs hl hk
   ·rw [if_neg hl] at h4; first | exact zB h4 | exact zF h4 | cases h4
  ·rw [if_neg hk0] at h2; first | exact zB h2 | exact zF h2 | cases h2
theorem zKp (fs : zW S C T) (FSs : FS S F q d) (FSq : FS S Fq true d) (cl : Clean C) (hr : ∀ s, SOk S F Fq q d H sc s (rec s)) {s : Stmt} {c : CS} (h : zGi C H sc rec s = some c) : SOk S F Fq q d H sc s c := by
 have hE := zDo (F := F) (q := q) (d := d) fs FSs cl xf
 cases s with
 | Return v pos =>
  cases v with
  | none => first | exact zB h | exact zF h | cases h
  | some e =>
   have h : (cE C xf H sc e).map .ret = some c := h
   simp only [Option.map_eq_some_iff] at h
   obtain ⟨a, ha, rfl⟩ := h
   exact zOC (hE H sc _ a ha).eo
 | Assign ts e pos =>
  match ts, h with
  | [], h => cases h
  | [t], h => exact zLU fs FSs cl h
  | _ :: _ :: _, h => cases h
 | If t a b pos =>
  have h : ((cE C xf H sc t).map fun t => CS.ite t (a.map rec) (b.map rec)) = some c := h
  simp only [Option.map_eq_some_iff] at h
  obtain ⟨t', ht, rfl⟩ := h
  exact zPd (hE H sc _ t' ht).to (kN hr a) (kN hr b)
 | For x iter body orelse pos =>
  cases orelse with
  | cons _ _ => first | exact zB h | exact zF h | cases h
  | nil =>
   have h : ((nameOf? x).bind fun x => (yp H sc x).bind fun i => (zJQ (cE C xf) H sc iter).map fun s => CS.for i s.1 s.2 (body.map rec)) = some c := h
   simp only [Option.bind_eq_some_iff, Option.map_eq_some_iff] at h
   obtain ⟨xn, hx, i, hi, ⟨k, cs⟩, hs, rfl⟩ := h
   obtain ⟨px, rfl⟩ := nameOf?_eq hx
   exact zN6 hi (zF7 fs cl hE hs) (kN hr body)
 | While t body orelse pos =>
  cases orelse with
  | cons _ _ => first | exact zB h | exact zF h | cases h
  | nil =>
   have h : ((cE C xf H sc t).map fun t => CS.while t (body.map rec)) = some c := h
   simp only [Option.map_eq_some_iff] at h
   obtain ⟨t', ht, rfl⟩ := h
   exact zKe (hE H sc _ t' ht).to (kN hr body)
 | Expr e pos =>
  have h : (if isComp e then none else (cE C xf H sc e).map .exp) = some c := h
  split at h
  ·first | exact zB h | exact zF h | cases h
  ·rename_i hc
   simp only [Option.map_eq_some_iff] at h
   obtain ⟨a, ha, rfl⟩ := h
   exact zN5 (hE H sc _ a ha).eo (kR ha (by simpa using hc))
 | Pass pos => cases h; exact zL7
 | Raise e c' pos =>
  match e, c', h with
  | none, _, h => cases h
  | some _, some _, h => cases h
  | some e, none, h =>
   exact zHA fs h
 | Try body hs oe fb pos =>
  match hs, oe, fb, h with
  | h₀ :: hs, [], [], h =>
   have h : ((cTK C H sc body).bind fun p => (zJM C H sc (h₀ :: hs)).map fun hs => CS.try p.1 p.2 hs) = some c := h
   simp only [Option.bind_eq_some_iff, Option.map_eq_some_iff] at h
   obtain ⟨⟨k, ce⟩, hb, cs, hcs, rfl⟩ := h
   obtain ⟨⟨b₀, bs, rfl⟩, ht⟩ := zJR fs FSs cl hb
   exact zOD fs ht (zF3 fs FSq cl hcs)
  | [], _, _, h => cases h
  | _ :: _, _ :: _, _, h => cases h
  | _ :: _, [], _ :: _, h => cases h
 | _ => first | exact zB h | exact zF h | cases h
end
theorem zMN (fs : zW S C T) (FSs : FS S F q d) (FSq : FS S Fq true d) (cl : Clean C) {H : List Str} {sc : Scope} : ∀ (n : Nat) (s : Stmt), SOk S F Fq q d H sc s (cS C H sc n s)
 | 0, _ => zEV
 | n + 1, s => by
  show SOk S F Fq q d H sc s ((zGi C H sc (cS C H sc n) s).getD .stuck)
  cases h : zGi C H sc (cS C H sc n) s with
  | none => exact zEV
  | some c => exact zKp fs FSs FSq cl (zMN fs FSs FSq cl n) h
theorem sSL (fs : zW S C T) (FSs : FS S F q d) (FSq : FS S Fq true d) (cl : Clean C) (H : List Str) (sc : Scope) (ss : List Stmt) : LSOk S F Fq q d H sc ss (cSL C H sc ss) := kN (zMN fs FSs FSq cl xf) ss
end
end Mine
end

section
namespace Mine
open PySem PyProof.Rows
inductive zE0 (S : zO) (C : Ctx) (k : Nat) (fn : Fn) : Prop where
 | mk (o : Obj) (fd : FuncData) (body : List Stmt) (ps : List Str) (ho : S.hb.get? (S.fn k) = some o) (hdata : o.data = .func fd) (hbody : fd.body = .stmts body) (hclo : fd.closure = []) (hglob : fd.globals = mainGlobals) (hblt : fd.builtins = builtinsNs)
   (hcode : S.hb.CodeRec fd.code fd.qualname) (hco : fd.scope.isCoroutine = false) (hgen : fd.scope.isGenerator = false) (hkf : fd.scope.kind = .function)
   (hbind : ∀ vals : List Value, vals.length = ps.length -> bindArgs fd ⟨vals, []⟩ = pure (ps.zip vals)) (hnd : ps.Nodup) (hpk : ∀ p ∈ ps, fd.scope.names.lookup p = some .local \/ fd.scope.names.lookup p = some .cell)
   (hfree : ∀ p ∈ fd.scope.names, p.2 ≠ .free) (hnn : (fd.scope.names.map (·.1)).Nodup) (hpar : fn.params = ps.length) (hslots : fn.slots = (xz ps fd.scope).length) (hcomp : cSL C (xz ps fd.scope) fd.scope body = fn.body)
theorem zBI {kindOf : Str -> Option NameKind} {x : Str} : ∀ (b : List (Str × Value)) (m : Str -> Option Value), (∀ p ∈ b, p.1 ≠ x) -> bindL kindOf b m x = m x
 | [], m, _ => rfl
 | (n, v) :: r, m, h => by
  rw [bindL, zBI r _ fun p hp => h p (List.mem_cons_of_mem _ hp)]
  have : x ≠ n := fun e => h (n, v) List.mem_cons_self e.symm
  split
  ·simp [this]
  ·rfl
theorem zBH {kindOf : Str -> Option NameKind} {x : Str} : ∀ (b : List (Str × Value)) (m : Str -> Option Value), (∀ p ∈ b, p.1 ≠ x) -> bindC kindOf b m x = m x
 | [], m, _ => rfl
 | (n, v) :: r, m, h => by
  rw [bindC, zBH r _ fun p hp => h p (List.mem_cons_of_mem _ hp)]
  have : x ≠ n := fun e => h (n, v) List.mem_cons_self e.symm
  split
  ·rfl
  ·simp [this]
theorem zAi {ps : List Str} {vs : List Value} {p : Str × Value} (h : p ∈ ps.zip vs) : p.1 ∈ ps := (List.of_mem_zip h).1
theorem zDk {kindOf : Str -> Option NameKind} {x : Str} {w : Value} (hk : kindOf x = some .local) : ∀ (ps : List Str) (vs : List Value) (i : Nat) (m : Str -> Option Value), ps.Nodup -> ps[i]? = some x -> vs[i]? = some w -> bindL kindOf (ps.zip vs) m x = some w
 | [], _, i, _, _, h, _ => by simp at h
 | p :: ps, [], i, _, _, _, h => by simp at h
 | p :: ps, v :: vs, 0, m, hn, h1, h2 => by
  obtain rfl : p = x := by simpa using h1
  obtain rfl : v = w := by simpa using h2
  rw [List.zip_cons_cons, bindL, zBI (x := p) _ _ fun q hq e => (List.nodup_cons.mp hn).1 (e ▸ zAi hq), if_pos hk]
  simp
 | p :: ps, v :: vs, i + 1, m, hn, h1, h2 => by
  rw [List.zip_cons_cons, bindL]
  exact zDk hk ps vs i _ (List.nodup_cons.mp hn).2 (by simpa using h1) (by simpa using h2)
theorem zDj {kindOf : Str -> Option NameKind} {x : Str} {w : Value} (hk : kindOf x ≠ some .local) : ∀ (ps : List Str) (vs : List Value) (i : Nat) (m : Str -> Option Value), ps.Nodup -> ps[i]? = some x -> vs[i]? = some w -> bindC kindOf (ps.zip vs) m x = some w
 | [], _, i, _, _, h, _ => by simp at h
 | p :: ps, [], i, _, _, _, h => by simp at h
 | p :: ps, v :: vs, 0, m, hn, h1, h2 => by
  obtain rfl : p = x := by simpa using h1
  obtain rfl : v = w := by simpa using h2
  rw [List.zip_cons_cons, bindC, zBH (x := p) _ _ fun q hq e => (List.nodup_cons.mp hn).1 (e ▸ zAi hq), if_neg hk]
  simp
 | p :: ps, v :: vs, i + 1, m, hn, h1, h2 => by
  rw [List.zip_cons_cons, bindC]
  exact zDj hk ps vs i _ (List.nodup_cons.mp hn).2 (by simpa using h1) (by simpa using h2)
theorem wU {x : Str} : ∀ (names : List (Str × NameKind)) (n : Nat) (acc : List (Str × Addr)), (acc.lookup x).isSome = true -> ((cellsFrom n names acc).lookup x).isSome = true
 | [], _, _, h => h
 | (y, k) :: r, n, acc, h => by
  unfold cellsFrom
  split
  ·refine wU r _ _ ?_
   rw [List.lookup_cons]
   split
   ·rfl
   ·exact h
  ·exact wU r _ _ h
theorem yh {x : Str} : ∀ (names : List (Str × NameKind)) (n : Nat) (acc : List (Str × Addr)), (x, NameKind.cell) ∈ names -> ((cellsFrom n names acc).lookup x).isSome = true
 | [], _, _, h => nomatch h
 | (y, k) :: r, n, acc, h => by
  unfold cellsFrom
  rcases List.mem_cons.mp h with e | h
  ·cases e
   rw [if_pos (by rfl)]
   exact wU r _ _ (by rw [List.lookup_cons]; simp)
  ·split
   ·exact yh r _ _ h
   ·exact yh r _ _ h
theorem xj : ∀ (names : List (Str × NameKind)) (n : Nat) (acc : List (Str × Addr)), (names.map (·.1)).Nodup -> (acc.map (·.1)).Nodup -> (∀ x ∈ acc.map (·.1), x ∉ names.map (·.1)) -> ((cellsFrom n names acc).map (·.1)).Nodup
 | [], _, _, _, h, _ => h
 | (y, k) :: r, n, acc, h1, h2, h3 => by
  have h1' := List.nodup_cons.mp h1
  unfold cellsFrom
  split
  ·refine xj r _ _ h1'.2 (List.nodup_cons.mpr ⟨fun h => h3 _ h List.mem_cons_self, h2⟩) fun x hx => ?_
   rcases List.mem_cons.mp hx with rfl | hx
   ·exact h1'.1
   ·exact fun h => h3 x hx (List.mem_cons_of_mem _ h)
  ·exact xj r _ _ h1'.2 h2 fun x hx h => h3 x hx (List.mem_cons_of_mem _ h)
theorem kc {β : Type} : ∀ {l : List (Str × β)} {p : Str × β}, (l.map (·.1)).Nodup -> p ∈ l -> l.lookup p.1 = some p.2
 | (y, v) :: r, p, hn, h => by
  have hn' := List.nodup_cons.mp hn
  rw [List.lookup_cons]
  rcases List.mem_cons.mp h with rfl | h
  ·simp
  ·have : (p.1 == y) = false := by
    cases e : (p.1 == y) with
    | false => rfl
    | true => exact (hn'.1 (eq_of_beq e ▸ List.mem_map_of_mem (f := (·.1)) h)).elim
   rw [this]
   exact kc hn'.2 h
section
variable {S : zO} {C : Ctx} {T : Nat -> Option Fn}
theorem zQB {a d : Nat} (h : a + 2 * (d + 1) + 2 <= 900) : a + 1 + 2 * d + 3 <= 900 := by omega
theorem zQC {a d : Nat} (h : a + 5 * (d + 1) + 200 <= 9900) : a + 3 + 5 * d + 202 <= 9900 := by omega
theorem kt (fs : zW S C T) (cl : Clean C) (fa : ∀ k fn, T k = some fn -> zE0 S C k fn) : ∀ (d : Nat) (q : Bool), FS S (zA T d q) q d
 | 0, q => fun k vs U f X A s vals cx L rs hne => (hne (by rfl)).elim
 | d + 1, q => fun k vs U f X A s vals cx L rs hne => by
  have ih := kt fs cl fa d q
  have ihq := kt fs cl fa d true
  rw [vG] at hne ⊢
  cases hT : T k with
  | none => rw [hT] at hne; exact (hne rfl).elim
  | some fn =>
   rw [hT] at hne
   simp only at hne ⊢
   by_cases hlen : vs.length = fn.params
   case neg => rw [if_neg hlen] at hne; exact (hne rfl).elim
   rw [if_pos hlen] at hne ⊢
   obtain ⟨o, fd, body, ps, ho, hdata, hbody, hclo, hglob, hblt, hcode, hco, hgen, hkf, hbind, hnd, hpk, hfree, hnn, hpar, hslots, hcomp⟩ := fa k fn hT
   have LS : LSOk S (zA T d q) (zA T d true) q d (xz ps fd.scope) fd.scope body fn.body := hcomp ▸ sSL fs ih ihq cl _ _ _
   refine ⟨⟨o, fd, ho, hdata⟩, ?_⟩
   have hvl : vals.length = ps.length := by rw [<- wC rs, hlen, hpar]
   refine codeAny_call_cells (Nat.lt_of_le_of_lt (Nat.le_trans (Nat.le_trans (Nat.le_add_right _ _) (Nat.le_add_right _ _)) cx.depth) (by decide)) (L.base _ _ ho) hdata (by obtain ⟨mc, h1, h2⟩ := fs.nolimit; exact ⟨mc, L.ns h1, h2⟩)
    (by obtain ⟨c, o, vs, t, e1, e2, e3⟩ := hcode; exact ⟨c, o, vs, t, e1, L.base _ _ e2, e3⟩) hbody (hbind vals hvl) hclo
    (fun x hx => (hpk x.1 (zAi hx)).imp id fun h => ⟨h, yh _ _ _ (zR h)⟩) (fun s₁ ic => ?_) hco hgen hkf
   generalize henv : callEnvC fd s.heap.objs.size (S.fn k) = env at ic ⊢
   have e_loc : env.locals = s.heap.objs.size := by rw [<- henv]; rfl
   have e_cells : env.cells = cellsFrom (s.heap.objs.size + 1) fd.scope.names [] := by rw [<- henv]; rfl
   have e_kind : ∀ x, env.kindOf x = fd.scope.names.lookup x := fun x => by rw [<- henv]; rfl
   have e_scope : env.scope = fd.scope := by rw [<- henv]; rfl
   have e_glob : env.globals = mainGlobals := by rw [<- henv]; exact hglob
   have e_blt : env.builtins = builtinsNs := by rw [<- henv]; exact hblt
   have e_frame : env.frame = some s.heap.objs.size := by rw [<- henv]; rfl
   have hkeep := ic.toInCall.keep
   have hnew : ∀ a, s.heap.objs.size <= a -> s.heap.get? a = none := fun a ha => by
    cases e : s.heap.get? a with
    | none => rfl
    | some o => exact absurd (Heap.lt_size e) (Nat.not_lt.mpr ha)
   have hN : ∀ a ∈ ya env, s.heap.get? a = none /\ ∃ o, s₁.heap.get? a = some o := fun a ha => by
    rcases List.mem_cons.mp ha with rfl | ha
    ·refine ⟨hnew _ (by rw [e_loc]; exact Nat.le_refl _), ?_⟩
     obtain ⟨o, _, _, ho, _⟩ := ic.toInCall.ns
     exact ⟨o, ho⟩
    ·obtain ⟨p, hp, rfl⟩ := List.mem_map.mp ha
     have hlo := ic.above p.1 p.2 hp
     refine ⟨hnew _ (Nat.le_of_lt (e_loc ▸ hlo)), ?_⟩
     have hlk : env.cells.lookup p.1 = some p.2 := kc (by rw [e_cells]; exact xj _ _ _ hnn .nil fun _ h => nomatch h) hp
     obtain ⟨o, ho, _⟩ := ic.cell p.1 p.2 hlk
     exact ⟨o, ho⟩
   have L' : Lk S (ya env ++ X) f U s₁.heap := L.enter hkeep hN
   have rs' : VRs S (ya env ++ X) f s₁.heap vs vals :=
    VRs.keep (fun _ _ e => e) (fun a o ho h1 h2 => ⟨⟨h1, fun h => (List.mem_append.mp h).elim (fun h => by rw [(hN a h).1] at ho; cases ho) h2⟩, o, hkeep a o ho, .refl o⟩) _ _ rs
   have hcx : Cx S (A.deeper env) q d f s₁.heap env.frame := by
    obtain ⟨l, h1, h2⟩ := cx.frs
    refine ⟨zQB cx.depth, zQC cx.units, cx.hand, env, l, by show A.frames.map (env :: ·) = _; rw [h1]; rfl, rfl, fun e he => ?_⟩
    rcases List.mem_cons.mp he with rfl | he
    ·obtain ⟨o, es, n, ho, hd, _⟩ := ic.toInCall.ns
     have hl := L'.hid e.locals (List.mem_append_left _ List.mem_cons_self)
     exact ⟨by rw [e_scope, hkf]; simp, e.locals, o, es, n, by rw [e_frame, e_loc], hl.1, hl.2.1, ho, hd⟩
    ·obtain ⟨h3, L1, o, es, n, h4, h5, h6, h7, h8⟩ := h2 e he
     exact ⟨h3, L1, o, es, n, h4, h5, h6, hkeep _ _ h7, h8⟩
   have hfr : FR S (ya env ++ X) f s₁.heap env (xz ps fd.scope) fd.scope (vs ++ List.replicate (fn.slots - fn.params) .undef) := by
    refine ⟨by rw [e_scope, hkf], e_glob, e_blt, fun x => .inl (e_kind x), ⟨List.mem_append_left _ List.mem_cons_self, _, ic.toInCall.ns⟩, fun x hx => ?_, fun x i v h1 h2 h3 h4 => ?_, ?_⟩
    ·have hc : fd.scope.names.lookup x = some .cell := by
      rcases hx with h | h
      ·rw [<- e_kind]; exact h
      ·rw [e_kind] at h; exact absurd rfl (hfree _ (zR h))
     have := yh (x := x) fd.scope.names (s.heap.objs.size + 1) [] (zR hc)
     rw [<- e_cells] at this
     obtain ⟨c, hcl⟩ := Option.isSome_iff_exists.mp this
     exact ⟨c, _, hcl, List.mem_append_left _ (List.mem_cons_of_mem _ (zBW hcl)), ic.cell x c hcl⟩
    ·have hi : i < vs.length := by
      cases hlt : decide (i < vs.length) with
      | true => exact of_decide_eq_true hlt
      | false =>
       have hge : vs.length <= i := Nat.le_of_not_lt (of_decide_eq_false hlt)
       rw [List.getElem?_append_right hge] at h3
       have := List.eq_of_mem_replicate (List.mem_of_getElem? h3)
       exact (h4 this).elim
     rw [List.getElem?_append_left hi] at h3
     obtain ⟨w, hw, r⟩ := kL rs' h3
     have hx : ps[i]? = some x := by
      have := wQ h2
      unfold xz at this
      rwa [List.getElem?_append_left (by rw [<- hpar, <- hlen]; exact hi)] at this
     refine ⟨w, ?_, r⟩
     rcases hpk x (List.mem_of_getElem? hx) with h | h
     ·exact .inl ⟨by rw [e_kind, h], _, ic.toInCall.ns, zDk (by rw [e_kind, h]) ps vals i _ hnd hx hw⟩
     ·have := yh (x := x) fd.scope.names (s.heap.objs.size + 1) [] (zR h)
      rw [<- e_cells] at this
      obtain ⟨c, hcl⟩ := Option.isSome_iff_exists.mp this
      refine .inr ⟨.inl (by rw [e_kind, h]), c, hcl, ?_⟩
      have := ic.cell x c hcl
      rwa [zDj (by rw [e_kind, h]; simp) ps vals i _ hnd hx hw] at this
    ·have : (xz ps fd.scope).length = ps.length + ((fd.scope.names.filter fun p => (p.2 == .local || p.2 == .cell) && !ps.contains p.1).map (·.1)).length := by rw [xz, List.length_append]
     rw [List.length_append, List.length_replicate, hlen, hslots, hpar]
     omega
   have hfw : FW env (ya env ++ X) := by
    refine ⟨List.mem_append_left _ List.mem_cons_self, fun p hp => List.mem_append_left _ (List.mem_cons_of_mem _ (List.mem_map_of_mem hp)), fun x y c h1 h2 => ?_⟩
    exact name_of_addr ic.apart (mem_of_lookup h1) (mem_of_lookup h2)
   have hne' : exL (zA T d q) (zA T d true) q fn.body (vs ++ List.replicate (fn.slots - fn.params) .undef) U ≠ .stuck := fun e => hne (by rw [e]; rfl)
   refine wpAny_mono (LS env _ f (ya env ++ X) U s₁ (A.deeper env) ⟨hcx, hfr, L'⟩ hfw hne') (fun fl s' hq => ?_) fun e s' he => ?_
   ·obtain ⟨x, U', g, er, hg, kp, Lk', hfl⟩ := hq
    rw [er] at hne ⊢
    have hg0 : Fresh g s := fun a ha => zw (fun a o e => ⟨o, hkeep a o e⟩) (hg a ha)
    have kp0 : Kp f [] s s' := by
     obtain ⟨h0, tk, e0⟩ := ic.toInCall.same
     refine ⟨by rw [kp.rest, e0], fun a o e => kp.live a o (hkeep a o e), fun a o e h1 _ => kp.kept a o (hkeep a o e) h1 fun h => (by rw [(hN a h).1] at e; cases e), fun a o es n e hd h1 => kp.dicts a o es n (hkeep a o e) hd h1⟩
    have Lk0 : Lk S X (f ++ g) U' s'.heap := Lk'.less fun a ha => List.mem_append_right _ ha
    cases x with
    | ret v =>
     obtain ⟨w, rfl, r⟩ := hfl
     exact ⟨v, U', g, rfl, hg0, kp0, Lk0, r.less fun a ha => List.mem_append_right _ ha⟩
    | next J' =>
     obtain ⟨rfl, -⟩ := hfl
     exact ⟨.none, U', g, rfl, hg0, kp0, Lk0, rfl⟩
   ·obtain ⟨c, U', g, ea, rfl, e2, hg, kp, Lk', x⟩ := he
    rw [e2] at hne ⊢
    obtain ⟨en, l, h1, h2, h3⟩ := (hcx.keep kp hg).frs
    obtain ⟨_, L1, _, _, _, h4, _⟩ := h3 en List.mem_cons_self
    have hX : ∀ a ∈ ya env ++ X, ∃ o, s₁.heap.get? a = some o := fun a ha => (L'.hid a ha).2.2
    unfold leaving
    rw [wu (env' := en) h2]
    refine wpAny_bind (zBY h1 h3 h4 x hX kp fun h' kp1 L'' x' => ?_)
    refine ⟨c, U', g, ea, rfl, rfl, fun a ha => zw (fun a o e => ⟨o, hkeep a o e⟩) (hg a ha), ?_, L''.less fun a ha => List.mem_append_right _ ha, (x'.less fun a ha => List.mem_append_right _ ha).back fun a h => zw (fun a o e => ⟨o, hkeep a o e⟩) h⟩
    obtain ⟨h0, tk, e0⟩ := ic.toInCall.same
    exact ⟨by rw [kp1.rest, e0], fun a o e => kp1.live a o (hkeep a o e), fun a o e h1 _ => kp1.kept a o (hkeep a o e) h1 fun h => (by rw [(hN a h).1] at e; cases e), fun a o es n e hd h1 => kp1.dicts a o es n (hkeep a o e) hd h1⟩
end
end Mine
end

section
namespace Mine
open PySem PySem.W PyProof.Rows
noncomputable def zAf (a : Arguments) : Bool := a.posonlyargs.isEmpty && a.vararg.isNone && a.kwonlyargs.isEmpty && a.kw_defaults.isEmpty && a.kwarg.isNone && a.defaults.isEmpty
noncomputable def zFf (params : Arguments) (scope : Scope) : Bool := zAf params && !scope.isCoroutine && !scope.isGenerator && scope.kind == .function && decide (params.args.map (·.arg)).Nodup && ((params.args.map (·.arg)).all fun p => scope.names.lookup p == some .local || scope.names.lookup p == some .cell)
 && !scope.names.any (fun p => p.2 == .free) && decide (scope.names.map (·.1)).Nodup
noncomputable def zGf (C : Ctx) (params : Arguments) (body : List Stmt) (scope : Scope) : Option Fn :=
 if zFf params scope then some ⟨(params.args.map (·.arg)).length, (xz (params.args.map (·.arg)) scope).length, cSL C (xz (params.args.map (·.arg)) scope) scope body⟩ else none
noncomputable def zPl (C : Ctx) (ds : List DefRec) : Option (List (Nat × Fn)) := ds.mapM fun d => (C.fns.lookup d.name).bind fun k => (zGf C d.params d.body d.scope).map fun f => (k, f)
noncomputable def zPm (C : Ctx) (ms : List MethRec) : Option (List (Nat × Fn)) := ms.mapM fun d => (C.meths.lookup d.name).bind fun k => (zGf C d.params d.body d.scope).map fun f => (k, f)
theorem zBV {α β : Type} {g : α -> Option β} : ∀ {l : List α} {r : List β} {b : β}, l.mapM g = some r -> b ∈ r -> ∃ a ∈ l, g a = some b
 | [], r, b, h, hb => by simp at h; subst h; cases hb
 | a :: l, r, b, h, hb => by
  rw [List.mapM_cons] at h
  cases h1 : g a with
  | none => first | (rw [h1] at h; exact zB h) | simp [h1] at h
  | some x =>
   cases h2 : l.mapM g with
   | none => first | (rw [h1, h2] at h; exact zB h) | (rw [h1, Option.bind_some, h2] at h; exact zB h) | simp [h1, h2] at h
   | some xs =>
    simp [h1, h2] at h
    subst h
    rcases List.mem_cons.mp hb with rfl | hb
    ·exact ⟨a, List.mem_cons_self, h1⟩
    ·obtain ⟨a', h3, h4⟩ := zBV h2 hb
     exact ⟨a', List.mem_cons_of_mem _ h3, h4⟩
theorem zAp {β : Type} {k : Nat} {y : β} : ∀ {l : List (Nat × β)}, l.lookup k = some y -> (k, y) ∈ l
 | (k', y') :: l, h => by
  rw [List.lookup_cons] at h
  split at h
  ·rename_i e; cases h; rw [eq_of_beq e]; exact List.mem_cons_self
  ·exact List.mem_cons_of_mem _ (zAp h)
noncomputable def zEY : Option Value -> Addr
 | some (.ref a) => a
 | _ => 0
noncomputable def xm (C : Ctx) (mg mN : Str -> Option Value) (k : Nat) : Addr := match C.fns.find? (fun p => p.2 == k) with
 | some p => zEY (mg p.1)
 | none => (match C.meths.find? (fun p => p.2 == k) with
  | some p => zEY (mN p.1)
  | none => 0)
theorem zBp {β : Type} : ∀ {ps : List Str} {vs : List β} {n : Str}, n ∈ ps -> vs.length = ps.length -> ∃ v, (ps.zip vs).lookup n = some v
 | p :: ps, [], n, _, h => by simp at h
 | p :: ps, v :: vs, n, hn, h => by
  rw [List.zip_cons_cons, List.lookup_cons]
  split
  ·exact ⟨v, rfl⟩
  ·rename_i e
   rcases List.mem_cons.mp hn with rfl | hn
   ·simp at e
   ·exact zBp hn (by simpa using h)
theorem zEz {β : Type} : ∀ {ps : List Str} {vs : List β}, ps.Nodup -> vs.length = ps.length -> (ps.filterMap fun n => ((ps.zip vs).lookup n).map (n, ·)) = ps.zip vs
 | [], vs, _, _ => by simp
 | p :: ps, [], _, h => by simp at h
 | p :: ps, v :: vs, hn, h => by
  have hn' := List.nodup_cons.mp hn
  rw [List.zip_cons_cons, List.filterMap_cons]
  simp only [List.lookup_cons, beq_self_eq_true, Option.map_some]
  have key : ∀ l : List Str, (∀ n ∈ l, n ≠ p) -> (l.filterMap fun n => (match n == p with | true => some v | false => (ps.zip vs).lookup n).map (n, ·)) = l.filterMap fun n => ((ps.zip vs).lookup n).map (n, ·) := by
   intro l hl
   induction l with
   | nil => rfl
   | cons n l ih =>
    have hne : (n == p) = false := by simpa using hl n List.mem_cons_self
    rw [List.filterMap_cons, List.filterMap_cons, ih fun n hm => hl n (List.mem_cons_of_mem _ hm), hne]
  exact congrArg _ ((key ps fun n hm e => hn'.1 (e ▸ hm)).trans (zEz hn'.2 (by simpa using h)))
noncomputable def zLu (n : Nat) : List Value := List.drop (([] : List Value).length - n) []
theorem zGX (n : Nat) : zLu n = [] := List.drop_nil
theorem zLR {fd : FuncData} {as : List Arg} {ps : List Str} {vals : List Value} (hp : fd.params = ⟨[], as, none, [], [], none, []⟩) (h1 : fd.defaults = .none) (h2 : fd.kwdefaults = .none) (hps : as.map (·.arg) = ps) (hgt : ¬ ((decide (vals.length > ps.length) && true) = true))
  (hm : ¬ ((!(List.filter (fun n => ((ps.zip vals).lookup n).isNone) (List.take (ps.length - (zLu ps.length).length) ps)).isEmpty) = true))
  (hz : (ps.drop (ps.length - (zLu ps.length).length)).zip (zLu ps.length) = []) {r : List (Str × Value)} (hr : (ps ++ []).filterMap (fun n => ((ps.zip vals).lookup n).map (n, ·)) = r) :
  bindArgs fd ⟨vals, []⟩ = pure r := by
 cases hps
 cases fd
 cases hp
 cases h1
 cases h2
 refine (if_neg hgt).trans ((if_neg hm).trans ?_)
 exact Eq.trans (congrArg (fun l => (forIn l _ _ : Sem _) >>= _) hz) (congrArg (fun x => (pure x : Sem (List (Str × Value)))) hr)
theorem zJG {fd : FuncData} {as : List Arg} (hp : fd.params = ⟨[], as, none, [], [], none, []⟩) (h1 : fd.defaults = .none) (h2 : fd.kwdefaults = .none) (hn : (as.map (·.arg)).Nodup) (vals : List Value) (hl : vals.length = (as.map (·.arg)).length) :
  bindArgs fd ⟨vals, []⟩ = pure ((as.map (·.arg)).zip vals) := by
 refine zLR hp h1 h2 rfl (by rw [hl, Bool.and_true, decide_eq_true_iff]; exact Nat.lt_irrefl _) ?_ (by rw [zGX]; exact List.zip_nil_right) (by rw [List.append_nil]; exact zEz hn hl)
 rw [zGX, List.length_nil, Nat.sub_zero, List.take_length]
 have : ((as.map (·.arg)).filter fun n => (((as.map (·.arg)).zip vals).lookup n).isNone) = [] := by
  rw [List.filter_eq_nil_iff]
  intro n hm
  obtain ⟨v, e⟩ := zBp hm hl
  rw [e]; exact Bool.false_ne_true
 rw [this]; exact Bool.false_ne_true
noncomputable def zGM (C : Ctx) (ds : List DefRec) : Bool := C.fns.all fun q => C.fns.find? (fun r => r.2 == q.2) == some q && ds.any (fun d => d.name == q.1)
noncomputable def zA6 (C : Ctx) (ms : List MethRec) : Bool := C.meths.all fun q => C.fns.find? (fun r => r.2 == q.2) == none && C.meths.find? (fun r => r.2 == q.2) == some q && ms.any (fun d => d.name == q.1)
theorem zDO {a : Arguments} (h : zAf a = true) : a = ⟨[], a.args, none, [], [], none, []⟩ := by
 obtain ⟨a1, a2, a3, a4, a5, a6, a7⟩ := a
 unfold zAf at h
 simp only [Bool.and_eq_true, List.isEmpty_iff, Option.isNone_iff_eq_none] at h
 obtain ⟨⟨⟨⟨⟨rfl, rfl⟩, rfl⟩, rfl⟩, rfl⟩, rfl⟩ := h
 rfl
theorem zF2 {α : Type} (nm : α -> Str) {d d' : α} (hn : nm d' = nm d) : ∀ l : List α, (l.map nm).Nodup -> d' ∈ l -> d ∈ l -> d' = d := by
 intro l
 induction l with
 | nil => intro _ h; cases h
 | cons x l ih =>
  intro hnd h1 h2
  have hnd' := List.nodup_cons.mp hnd
  rcases List.mem_cons.mp h1 with rfl | h1' <;> rcases List.mem_cons.mp h2 with rfl | h2'
  ·rfl
  ·exact (hnd'.1 (by rw [hn]; exact List.mem_map_of_mem (f := nm) h2')).elim
  ·exact (hnd'.1 (by rw [<- hn]; exact List.mem_map_of_mem (f := nm) h1')).elim
  ·exact ih hnd'.2 h1' h2'
section
variable {p : Program} {loose : List Str} {mean : ExcName -> Option Value} {mg mb mN : Str -> Option Value} {S : zO} {C : Ctx} {tab tF tM : List (Nat × Fn)} {c : ClsRec} {Cb N : Addr}
theorem zD9 {k : Nat} {fn : Fn} {o : Obj} {fd : FuncData} {params : Arguments} {body : List Stmt} {scope : Scope} (hr : zGf C params body scope = some fn) (e2 : S.hb.get? (S.fn k) = some o) (e3 : o.data = .func fd)
  (h1 : fd.params = params) (h2 : fd.body = .stmts body) (h3 : fd.scope = scope) (h4 : fd.closure = []) (h5 : fd.globals = mainGlobals) (h6 : fd.builtins = builtinsNs) (h7 : fd.defaults = .none) (h8 : fd.kwdefaults = .none) (e4 : S.hb.CodeRec fd.code fd.qualname) : zE0 S C k fn := by
 subst h1 h3
 unfold zGf at hr
 by_cases hc : zFf fd.params fd.scope = true
 case neg => rw [if_neg hc] at hr; first | exact zB hr | exact zF hr | cases hr
 rw [if_pos hc] at hr
 cases hr
 unfold zFf at hc
 simp only [Bool.and_eq_true, Bool.not_eq_true', beq_iff_eq, decide_eq_true_eq] at hc
 obtain ⟨⟨⟨⟨⟨⟨⟨c0, c1⟩, c2⟩, c3⟩, c4⟩, c5⟩, c6⟩, c7⟩ := hc
 refine ⟨o, fd, body, fd.params.args.map (·.arg), e2, e3, h2, h4, h5, h6, e4, c1, c2, c3, fun vals hv => zJG (zDO c0) h7 h8 c4 vals hv, c4, fun q hq => ?_, fun q hq => ?_, c7, rfl, rfl, rfl⟩
 ·have := List.all_eq_true.mp c5 q hq
  exact (Bool.or_eq_true_iff.mp this).imp eq_of_beq eq_of_beq
 ·intro e
  have := List.any_eq_false.mp c6 q hq
  rw [e] at this
  exact this rfl
theorem zMZ (T : Top p loose mean mg mb S.hb) (hf : zGM C (recsOf p) = true) (hS : S.fn = xm C mg mN) {x : Str} {k : Nat} (h : C.fns.lookup x = some k) :
  ∃ d ∈ recsOf p, d.name = x /\ ∃ o pm code doc, mg x = some (.ref (S.fn k)) /\ S.hb.get? (S.fn k) = some o /\ o.data = .func (Calls.docDef d.name d.params d.body d.scope pm code doc) /\ S.hb.CodeRec code d.name := by
 have hm := zR h
 have := List.all_eq_true.mp hf _ hm
 simp only [Bool.and_eq_true, beq_iff_eq] at this
 obtain ⟨h1, h2⟩ := this
 obtain ⟨d, hd, hn⟩ := List.any_eq_true.mp h2
 obtain rfl := eq_of_beq hn
 obtain ⟨a, o, pm, code, doc, e1, e2, e3, e4⟩ := T.fn d hd
 have ha : S.fn k = a := by rw [hS, xm, h1]; show zEY _ = _; rw [e1]; rfl
 rw [ha]
 exact ⟨d, hd, rfl, o, pm, code, doc, e1, e2, e3, e4⟩
theorem zLj (T : Top p loose mean mg mb S.hb) (hf : zGM C (recsOf p) = true) (hS : S.fn = xm C mg mN) (hone : ((recsOf p).map (·.name)).Nodup) (htab : zPl C (recsOf p) = some tF) : ∀ k fn, (k, fn) ∈ tF -> zE0 S C k fn := by
 intro k fn hk
 obtain ⟨d, hd, e⟩ := zBV htab hk
 simp only [Option.bind_eq_some_iff, Option.map_eq_some_iff] at e
 obtain ⟨k', hl, f, hr, e⟩ := e
 cases e
 obtain ⟨d', hd', hn, o, pm, code, doc, -, e2, e3, e4⟩ := zMZ T hf hS hl
 obtain rfl := zF2 (·.name) hn _ hone hd' hd
 exact zD9 hr e2 e3 rfl rfl rfl rfl rfl rfl rfl rfl e4
theorem zA5 (P : PlainAt S.hb c Cb N mN) (hf : zA6 C c.meths = true) (hS : S.fn = xm C mg mN) {x : Str} {k : Nat} (h : C.meths.lookup x = some k) :
  ∃ d ∈ c.meths, d.name = x /\ ∃ o pm code doc, mN x = some (.ref (S.fn k)) /\ S.hb.get? (S.fn k) = some o /\ o.cls = .type "function" /\ o.data = .func (methDef d.name (c.name ++ "." ++ d.name) d.params d.body d.scope pm code doc) /\ S.hb.CodeRec code (c.name ++ "." ++ d.name) := by
 have hm := zR h
 have := List.all_eq_true.mp hf _ hm
 simp only [Bool.and_eq_true, beq_iff_eq] at this
 obtain ⟨⟨h0, h1⟩, h2⟩ := this
 obtain ⟨d, hd, hn⟩ := List.any_eq_true.mp h2
 obtain rfl := eq_of_beq hn
 obtain ⟨a, o, pm, code, doc, e1, e2, ec, e3, e4⟩ := P.meths d hd
 have ha : S.fn k = a := by rw [hS, xm, h0, h1]; show zEY _ = _; rw [e1]; rfl
 rw [ha]
 exact ⟨d, hd, rfl, o, pm, code, doc, e1, e2, ec, e3, e4⟩
theorem zHX (P : PlainAt S.hb c Cb N mN) (hf : zA6 C c.meths = true) (hS : S.fn = xm C mg mN) (hone : (c.meths.map (·.name)).Nodup) (htab : zPm C c.meths = some tM) : ∀ k fn, (k, fn) ∈ tM -> zE0 S C k fn := by
 intro k fn hk
 obtain ⟨d, hd, e⟩ := zBV htab hk
 simp only [Option.bind_eq_some_iff, Option.map_eq_some_iff] at e
 obtain ⟨k', hl, f, hr, e⟩ := e
 cases e
 obtain ⟨d', hd', hn, o, pm, code, doc, -, e2, -, e3, e4⟩ := zA5 P hf hS hl
 obtain rfl := zF2 (·.name) hn _ hone hd' hd
 exact zD9 hr e2 e3 rfl rfl rfl rfl rfl rfl rfl rfl e4
theorem zLS (P : PlainAt S.hb c Cb N mN) (hC : S.book = Cb) (hf : zA6 C c.meths = true) (hS : S.fn = xm C mg mN) (hi : C.meths.lookup ("__init__" : Str) = some 0) (hq : zQ 0 ∈ c.quiet /\ zQ 1 ∈ c.quiet) : zCx S C := by
 subst hC
 obtain ⟨nm, q, bs, sn, sub, col, dd, k0, k1, k2, k3, k5, e⟩ := P.cls.obj
 have q3 : ∀ n ∈ (["__setattr__", "__getattribute__", "__getattr__"] : List Str), mN n = none := fun n hn => P.quiet n (List.mem_append_left _ hn)
 refine ⟨N, mN, nm, q, bs, sn, sub, col, dd, k0, k1, k2, k3, k5, e, P.cls.ns, ⟨q3 _ (by simp), q3 _ (by simp), q3 _ (by simp), P.quiet _ hq.1, P.quiet _ hq.2⟩, ?_, ?_, fun m k h => ?_⟩
 ·obtain ⟨_, _, _, _, _, _, _, e1, _⟩ := zA5 P hf hS hi; exact e1
 ·obtain ⟨_, _, _, o, _, _, _, _, e2, ec, _⟩ := zA5 P hf hS hi; exact ⟨o, e2, ec⟩
 ·obtain ⟨_, _, _, o, _, _, _, e1, e2, ec, _⟩ := zA5 P hf hS h; exact ⟨e1, o, e2, ec⟩
noncomputable def zJs (p : Program) (loose : List Str) (C : Ctx) : Bool := (b1Names.map (·.1) ++ b2Names.map (·.1) ++ kindNames.map (·.1) ++ [("isinstance" : Str), "range"]).all fun x =>
 (C.fns.lookup x).isSome || (x != ("__name__" : Str) && !(startupNames.contains x || loose.contains x || ((recsOf p).map (·.name)).contains x || ((litsOf p).map (·.1)).contains x || ((clssOf p loose).map (·.name)).contains x))
theorem zJo (T : Top p loose mean mg mb S.hb) (hf : zGM C (recsOf p) = true) (hS : S.fn = xm C mg mN) (hfree : zJs p loose C = true)
  (hconst : ∀ x v, C.consts.lookup x = some v -> ∃ w, mg x = some w /\ VR S [] [] S.hb v w) (hbook : C.book = true -> mg "Book" = some (.ref S.book)) (hB : (C.book = false /\ C.meths = [] /\ C.attrs = []) \/ (C.attrs = attrNames /\ zCx S C))
  (hexc : ∀ x c, C.excs.lookup x = some c -> (mg x = some (S.cl c)) \/ (mg x = none /\ mb x = some (S.cl c))) (hcl : ∀ x c, C.excs.lookup x = some c -> c ∈ S.kn /\ (x ≠ ("ValueError" : Str) -> zBB S c))
  (hparts : wl S S.hb) (hpn : S.parts ≠ .none) (fa : ∀ k fn, tab.lookup k = some fn -> zE0 S C k fn) : zW S C (fun k => tab.lookup k) := by
 refine ⟨⟨mg, mb, T.g, T.b, hconst, fun x k h => ?_, fun x hx hn => ?_, hbook, hexc⟩, T.nolimit, hB, hcl, hparts, hpn, fun k fn h => ?_⟩
 ·obtain ⟨_, _, _, _, _, _, _, e, _⟩ := zMZ T hf hS h
  exact e
 ·have hm : x ∈ b1Names.map (·.1) ++ b2Names.map (·.1) ++ kindNames.map (·.1) ++ [("isinstance" : Str), "range"] := by
   simp only [List.mem_append, List.mem_cons, List.not_mem_nil, or_false]
   rcases hx with h | h | h | h | h
   ·exact .inl (.inl (.inl h))
   ·exact .inl (.inl (.inr h))
   ·exact .inl (.inr h)
   ·exact .inr (.inl h)
   ·exact .inr (.inr h)
  have := List.all_eq_true.mp hfree x hm
  rw [hn] at this
  simp only [Option.isSome_none, Bool.false_or, Bool.and_eq_true, bne_iff_ne, ne_eq, Bool.not_eq_true', Bool.or_eq_false_iff] at this
  obtain ⟨h0, ⟨⟨⟨h1, h2⟩, h3⟩, h4⟩, h5⟩ := this
  have no : ∀ {l : List Str}, l.contains x = false -> x ∉ l := fun h hm => by rw [List.contains_iff_mem.mpr hm] at h; cases h
  exact ⟨T.free x (no h1) (no h2) (no h3) (no h4) (no h5), T.builtins x h0⟩
 ·obtain ⟨o, fd, _, _, h1, h2, _⟩ := fa k fn h
  exact ⟨o, fd, h1, h2⟩
theorem zGy {P : Params} {a : Addr} {ns : List Int} (W : Well P S.hb (.ref a) (ofPy (.list (ns.map PyData.int)))) (hl : ns.length <= LIM) : VR S [] [] S.hb (.lst (ns.map V.int)) (.ref a) := by
 have key : ∀ {vs : List Value} {l : List Int}, WellAll P S.hb vs (ofPys (l.map PyData.int)) -> VRs S [] [] S.hb (l.map V.int) vs := by
  intro vs l
  induction l generalizing vs with
  | nil => intro h; cases h; rw [List.map_nil]; exact True.intro
  | cons n l ih =>
   intro h
   cases h with
   | cons h1 h2 =>
    cases h1
    rw [List.map_cons]
    exact ⟨⟨_, rfl⟩, ih h2⟩
 cases W with
 | list h1 h2 =>
  exact ⟨a, _, _, rfl, ⟨by simp [addrs], by simp⟩, h1, key h2, by simpa using hl⟩
theorem zJ3 (fs : zW S C (fun k => tab.lookup k)) (cl : Clean C) (fa : ∀ k fn, tab.lookup k = some fn -> zE0 S C k fn) {s₁ : Shared} (hS : S.hb = s₁.heap) {ns : List Int} {a : Addr} {k d : Nat} (hd : d <= 100)
  (hv : VR S [] [] S.hb (.lst (ns.map V.int)) (.ref a)) (hres : ∃ U', zA (fun k => tab.lookup k) d false k [.lst (ns.map V.int)] [] = .ok (.bool true) U') :
  codeAny (model S.prog S.w) callerA (.call (.ref (S.fn k)) ⟨[.ref a], []⟩) (fun r s' => r = .ok (.ret (.bool true)) /\ (∀ b o, s₁.heap.get? b = some o -> s'.heap.get? b = some o) /\ s'.os = s₁.os /\ s'.gens = s₁.gens) s₁ := by
 obtain ⟨U', hres⟩ := hres
 have L : Lk S [] [] [] s₁.heap := ⟨fun b o h => hS ▸ h, rfl, .nil, (fun a h => nomatch h), (fun a h => nomatch h), fun i l o h => by simp at h⟩
 have cx : CxC S callerA false d [] s₁.heap := ⟨by show 1 + claimMargin + 2 * d + 2 <= 900; simp only [claimMargin]; omega, by show 4 + 5 * d + 200 <= 9900; omega, fun _ => rfl, [], rfl, fun _ h => nomatch h⟩
 have := (kt fs cl fa d false k [.lst (ns.map V.int)] [] [] [] callerA s₁ [.ref a] cx L (⟨hS ▸ hv, trivial⟩) (by rw [hres]; simp)).2
 refine codeAny_mono this fun r s' h => ?_
 match r, h with
 | .ok (.ret v), h =>
  obtain ⟨b, U'', g, e, hg, kp, L', p⟩ := h
  rw [hres] at e
  cases e
  have hv : v = .bool true := by have : VR _ _ _ _ _ _ := p; exact this
  refine ⟨by rw [hv], fun b o h => L'.base b o (hS ▸ h), ?_, ?_⟩
  ·rw [kp.rest]
  ·rw [kp.rest]
 | .error e, h =>
  obtain ⟨c, U'', g, ea, e1, e2, hgE, kE, LE, xE⟩ := h
  rw [hres] at e2
  cases e2
end
theorem zFQ (l : OpenLaw) (args : List WData) (cls : ExcName) : l.row.claim.raises args cls = false := rfl
theorem zJ4 (l : OpenLaw) (args : List WData) : l.row.claim.post args (.bool true) args = true :=
 postW_of (X := true) (by rfl) (by wtm_val) rfl
theorem law_good (l : OpenLaw) {args : List WData} {c : Str -> Option Addr} {mean : ExcName -> Option Value} {s₁ s' : Shared} (hk : ∀ b o, s₁.heap.get? b = some o -> s'.heap.get? b = some o) (hos : s'.os = s₁.os) (hg : s₁.gens = #[]) (hgs : s'.gens = s₁.gens) :
  GoodWG l.row.claim c mean args s₁ (.ok (.ret (.bool true))) s' :=
 ⟨.inl ⟨_, .bool true, [], rfl, zFQ l args, .bool true, zJ4 l args, fun _ => ⟨.nil, fun _ h => nomatch h⟩⟩, .of_keep hk, hos, fun y hy => by rw [hgs, hg] at hy; simp at hy⟩
end Mine
end

section
namespace Mine
open PySem
section
variable {F Fq : Calls} {q : Bool} {J J' : List V} {U U' U1 U2 U3 : Sto} {rest A B : List CS} {r : R Fl} {v x y z : V} {c e a b : CE} {i : Nat}
@[simp] theorem zOd (v : V) : zB0 (.ret v) U = .ok v U := rfl
@[simp] theorem zNj : zB0 (.next J) U = .ok .none U := rfl
noncomputable def zEn (F Fq : Calls) (q : Bool) (ss : List CS) (fl : Fl) (U : Sto) : R Fl :=
 match fl with
 | .next J => exL F Fq q ss J U
 | .ret v => .ok (.ret v) U
theorem yS (s : CS) : exL F Fq q (s :: rest) J U = (exS F Fq q s J U).bind (zEn F Fq q rest) := by
 rw [zGw]
 cases exS F Fq q s J U with
 | ok fl U => cases fl <;> rfl
 | _ => rfl
theorem jA : ∀ (A rest : List CS) (J : List V) (U : Sto), exL F Fq q (A ++ rest) J U = (exL F Fq q A J U).bind (zEn F Fq q rest)
 | [], _, _, _ => rfl
 | s :: A, rest, J, U => by
  rw [List.cons_append, yS, yS]
  cases exS F Fq q s J U with
  | ok fl U =>
   cases fl with
   | next J => exact jA A rest J U
   | ret v => rfl
  | _ => rfl
theorem zG (h : evE F q e J U = .ok v U') (k : exL F Fq q rest (J.set i v) U' = r) : exL F Fq q (.asg i e :: rest) J U = r := by
 rw [yS, zK1, h]; exact k
theorem yP (h : evE F q e J U = .ok v U') (k : exL F Fq q rest J U' = r) : exL F Fq q (.exp e :: rest) J U = r := by
 rw [yS, zK5, h]; exact k
theorem zBc {c : Cls} (h : evE F q e J U = .exc c U') : exL F Fq q (.exp e :: rest) J U = .exc c U' := by
 rw [yS, zK5, h]; rfl
theorem zJ (h : evE F q e J U = .ok v U') : exL F Fq q (.ret e :: rest) J U = .ok (.ret v) U' := by
 rw [yS, zLB, h]; rfl
theorem zBd {c : Cls} (h : evE F q e J U = .exc c U') : exL F Fq q (.ret e :: rest) J U = .exc c U' := by
 rw [yS, zLB, h]; rfl
theorem s_t (h : evC F q (some c) J U = .ok true U') (k : exL F Fq q (A ++ rest) J U' = r) : exL F Fq q (.ite c A B :: rest) J U = r := by
 rw [jA] at k
 rw [yS, zEy]
 rw [zA9] at h
 cases hc : evE F q c J U with
 | ok v U1 =>
  rw [hc, R.bind_ok] at h
  rw [R.bind_ok]
  cases ht : truthy U1 v with
  | none => rw [ht] at h; cases h
  | some t => rw [ht] at h; cases h; exact k
 | exc _ _ => rw [hc] at h; cases h
 | stuck => rw [hc] at h; cases h
theorem s_f (h : evC F q (some c) J U = .ok false U') (k : exL F Fq q (B ++ rest) J U' = r) : exL F Fq q (.ite c A B :: rest) J U = r := by
 rw [jA] at k
 rw [yS, zEy]
 rw [zA9] at h
 cases hc : evE F q c J U with
 | ok v U1 =>
  rw [hc, R.bind_ok] at h
  rw [R.bind_ok]
  cases ht : truthy U1 v with
  | none => rw [ht] at h; cases h
  | some t => rw [ht] at h; cases h; exact k
 | exc _ _ => rw [hc] at h; cases h
 | stuck => rw [hc] at h; cases h
theorem vC : exL F Fq q [] J U = .ok (.next J) U := rfl
theorem yQ {o i v : CE} {a b x : V} (hv : evE F q v J U = .ok x U1) (ho : evE F q o J U1 = .ok a U2) (hi : evE F q i J U2 = .ok b U3) (h : xI U3 a b x = .ok () U') (k : exL F Fq q rest J U' = r) : exL F Fq q (.setItem o i v :: rest) J U = r := by
 rw [yS, zCw, hv, R.bind_ok, ho, R.bind_ok, hi, R.bind_ok, h]; exact k
theorem zQJ {t : Bool} (h : evE F q c J U = .ok v U') (ht : truthy U' v = some t) : evC F q (some c) J U = .ok t U' := by
 rw [zA9, h, R.bind_ok, ht]; rfl
theorem zE {t : Bool} (h : evE F q c J U = .ok (.bool t) U') : evC F q (some c) J U = .ok t U' := zQJ h rfl
theorem ze {o : P1} (ha : evE F q a J U = .ok x U1) (h : ev1 o U1 x = some z) (hl : (kg o && q) = false := by rfl) : evE F q (.p1 o a) J U = .ok z U1 := by
 rw [zLA, hl, ha, R.bind_ok, h]; rfl
theorem zD {o : P2} (ha : evE F q a J U = .ok x U1) (hb : evE F q b J U1 = .ok y U2) (h : ev2 o U2 x y = some z) (hl : (wb o && q) = false := by rfl) : evE F q (.p2 o a b) J U = .ok z U2 := by
 rw [zI5, hl, ha, R.bind_ok, hb, R.bind_ok, h]; rfl
theorem ye (ha : evE F q a J U = .ok x U1) (ht : truthy U1 x = some false) : evE F q (.and a b) J U = .ok x U1 := by
 rw [zGp, ha, R.bind_ok, ht]; rfl
theorem zq {r : R V} (ha : evE F q a J U = .ok x U1) (ht : truthy U1 x = some true) (hb : evE F q b J U1 = r) : evE F q (.and a b) J U = r := by
 rw [zGp, ha, R.bind_ok, ht]; exact hb
theorem zAA (ha : evE F q a J U = .ok x U1) (ht : truthy U1 x = some true) : evE F q (.or a b) J U = .ok x U1 := by
 rw [zMI, ha, R.bind_ok, ht]; rfl
theorem zc {r : R V} (ha : evE F q a J U = .ok x U1) (ht : truthy U1 x = some false) (hb : evE F q b J U1 = r) : evE F q (.or a b) J U = r := by
 rw [zMI, ha, R.bind_ok, ht]; exact hb
theorem zK {f : Nat} {args : List CE} {vs : List V} {r : R V} (ha : evL F q args J U = .ok vs U1) (h : F f vs U1 = r) : evE F q (.call f args) J U = r := by
 rw [zK3, ha]; exact h
theorem zS {f : Nat} {args : List CE} {vs : List V} {r : R V} (ho : evE F q a J U = .ok x U1) (hi : isInst U1 x = true) (ha : evL F q args J U1 = .ok vs U2) (h : F f (x :: vs) U2 = r) : evE F q (.callm f a args) J U = r := by
 rw [zGq, ho, R.bind_ok, if_pos hi, ha]; exact h
theorem zC {es : List CE} {vs : List V} (h : evE F q e J U = .ok v U1) (hs : evL F q es J U1 = .ok vs U2) : evL F q (e :: es) J U = .ok (v :: vs) U2 := by
 rw [zBo, h, R.bind_ok, hs]; rfl
theorem yt {es : List CE} {vs : List V} (h : evL F q es J U = .ok vs U1) : evE F q (.tup es) J U = .ok (.tup vs) U1 := by rw [zMs, h]; rfl
theorem xl {es : List CE} {vs : List V} (h : evL F q es J U = .ok vs U1) : evE F q (.list es) J U = .ok (.lst vs) U1 := by rw [zK8, h]; rfl
theorem zJZ {k : Nat} (h : evE F q a J U = .ok x U1) (hv : zBM U1 x k = some v) : evE F q (.attr a k) J U = .ok v U1 := by
 rw [zK2, h, R.bind_ok, hv]; rfl
theorem yC (hl : evE F q a J U = .ok x U1) (hi : kP U1 x = true) (hx : evE F q b J U1 = .ok y U2) (h : wY U2 x y = .ok v U') : evE F q (.append a b) J U = .ok v U' := by
 rw [zEx, hl, R.bind_ok, if_pos hi, hx]; exact h
end
section
variable {T : Nat -> Option Fn} {d k : Nat} {q : Bool} {fn : Fn} {args : List V} {U U' : Sto}
theorem zb {c : Cls} (h : T k = some fn) (hl : args.length = fn.params) (hx : exL (zA T d q) (zA T d true) q fn.body (args ++ List.replicate (fn.slots - fn.params) .undef) U = .exc c U') : zA T (d + 1) q k args U = .exc c U' := by
 rw [vG, h]; simp only [hl, if_true, hx]; rfl
theorem wA {J : List V} (h : T k = some fn) (hl : args.length = fn.params) (hx : exL (zA T d q) (zA T d true) q fn.body (args ++ List.replicate (fn.slots - fn.params) .undef) U = .ok (.next J) U') : zA T (d + 1) q k args U = .ok .none U' := by
 rw [vG, h]; simp only [hl, if_true, hx]; rfl
end
end Mine
end

section
namespace Mine
open PySem
noncomputable def tr (t : Bool) (e : CE) : CE := match t with
 | true => .trk e
 | false => e
noncomputable def zMT : Fn := { params := 3, slots := 3, body := [CS.ret (CE.p2 P2.fdiv (CE.p2 P2.mul (CE.var 0) (CE.var 1)) (CE.var 2))] }
noncomputable def zMU : Fn := { params := 1, slots := 1, body := [CS.ite (CE.or (CE.p1 P1.not (CE.p1 (P1.isInst Kd.str) (CE.var 0))) (CE.p1 P1.not (CE.chain (CE.lit (V.int 1)) [P2.le, P2.le] [CE.p1 P1.len (CE.var 0),CE.lit (V.int 12)]))) [CS.ret (CE.lit (V.bool false))] [],CS.ret (CE.p1 P1.all (CE.comp (CE.p2 P2.isIn (CE.var 1) (CE.lit (V.str { cps := #[97,98,99,100,101,102,103,104,105,106,107,108,109,110,111,112,113,114,115,116,117,118,119,120,121,122] }))) SK.val [CE.var 0] none))] }
noncomputable def fB_22 : Fn := { params := 1, slots := 2, body := [CS.ite (CE.p1 P1.not (CE.chain (CE.lit (V.int 1)) [P2.le, P2.le] [CE.p1 P1.len (CE.var 0),CE.lit (V.int 20)])) [CS.raise (Cls.NoLines)] [],CS.for 1 SK.val [CE.var 0] [CS.ite (CE.p1 P1.not (CE.call 21 [CE.p2 P2.index (CE.var 1) (CE.lit (V.int 0))])) [CS.raise (Cls.NoItem)] [],CS.ite (CE.or (CE.p1 P1.not (CE.chain (CE.lit (V.int 1)) [P2.le, P2.le] [CE.p2 P2.index (CE.var 1) (CE.lit (V.int 1)),CE.lit (V.int 1000000)])) (CE.or (CE.p1 P1.not (CE.chain (CE.lit (V.int 0)) [P2.le, P2.le] [CE.p2 P2.index (CE.var 1) (CE.lit (V.int 2)),CE.lit (V.int 1000000000)])) (CE.p1 P1.not (CE.chain (CE.lit (V.int 1)) [P2.le, P2.le] [CE.p2 P2.index (CE.var 1) (CE.lit (V.int 3)),CE.lit (V.int 1000)])))) [CS.raise (Cls.NoNumber)] []]] }
noncomputable def zMV : Fn := { params := 1, slots := 1, body := [CS.ret (CE.tup [CE.p2 P2.index (CE.var 0) (CE.lit (V.int 0)),CE.p2 P2.index (CE.var 0) (CE.lit (V.int 1)),CE.p2 P2.index (CE.var 0) (CE.lit (V.int 2)),CE.p2 P2.index (CE.var 0) (CE.lit (V.int 3)),CE.lit (V.int 0),CE.lit (V.int 0),CE.lit (V.int 0),CE.lit (V.int 0)])] }
noncomputable def zMW : Fn := { params := 1, slots := 1, body := [CS.ret (CE.p2 P2.sub (CE.call 20 [CE.p2 P2.sub (CE.p2 P2.index (CE.var 0) (CE.lit (V.int 4))) (CE.p2 P2.index (CE.var 0) (CE.lit (V.int 5))),CE.p2 P2.index (CE.var 0) (CE.lit (V.int 2)),CE.p2 P2.index (CE.var 0) (CE.lit (V.int 3))]) (CE.p2 P2.index (CE.var 0) (CE.lit (V.int 7))))] }
noncomputable def zMX : Fn := { params := 2, slots := 2, body := [CS.ite (CE.p2 P2.eq (CE.var 0) (CE.lit (V.str { cps := #[100,101,108,105,118,101,114] }))) [CS.ret (CE.p2 P2.add (CE.p2 P2.sub (CE.p2 P2.index (CE.var 1) (CE.lit (V.int 1))) (CE.p2 P2.index (CE.var 1) (CE.lit (V.int 4)))) (CE.p2 P2.index (CE.var 1) (CE.lit (V.int 6))))] [],CS.ite (CE.p2 P2.eq (CE.var 0) (CE.lit (V.str { cps := #[99,114,101,100,105,116] }))) [CS.ret (CE.call 24 [CE.var 1])] [],CS.ret (CE.p2 P2.sub (CE.p2 P2.index (CE.var 1) (CE.lit (V.int 4))) (CE.p2 P2.index (CE.var 1) (CE.lit (V.int 5))))] }
noncomputable def zMY : Fn := { params := 3, slots := 7, body := [CS.asg 3 (CE.p2 P2.index (CE.var 1) (CE.lit (V.int 4))),CS.asg 4 (CE.p2 P2.index (CE.var 1) (CE.lit (V.int 5))),CS.asg 5 (CE.p2 P2.index (CE.var 1) (CE.lit (V.int 6))),CS.asg 6 (CE.p2 P2.index (CE.var 1) (CE.lit (V.int 7))),CS.ite (CE.p2 P2.eq (CE.var 0) (CE.lit (V.str { cps := #[100,101,108,105,118,101,114] }))) [CS.asg 3 (CE.p2 P2.add (CE.var 3) (CE.var 2))] [CS.ite (CE.p2 P2.eq (CE.var 0) (CE.lit (V.str { cps := #[99,114,101,100,105,116] }))) [CS.asg 6 (CE.p2 P2.add (CE.var 6) (CE.var 2))] [CS.asg 4 (CE.p2 P2.add (CE.var 4) (CE.var 2)),CS.ite (CE.p2 P2.eq (CE.var 0) (CE.lit (V.str { cps := #[115,119,97,112] }))) [CS.asg 5 (CE.p2 P2.add (CE.var 5) (CE.var 2))] [],CS.asg 6 (CE.p2 P2.min (CE.var 6) (CE.call 20 [CE.p2 P2.sub (CE.var 3) (CE.var 4),CE.p2 P2.index (CE.var 1) (CE.lit (V.int 2)),CE.p2 P2.index (CE.var 1) (CE.lit (V.int 3))]))]],CS.ret (CE.p2 P2.add (CE.slice (CE.var 1) none (some (CE.lit (V.int 4)))) (CE.tup [CE.var 3,CE.var 4,CE.var 5,CE.var 6]))] }
noncomputable def zO5 : Fn := { params := 1, slots := 1, body := [CS.setAttr (CE.var 0) 0 (CE.trk (CE.list [])),CS.setAttr (CE.var 0) 1 (CE.trk (CE.list []))] }
noncomputable def zO6 : Fn := { params := 2, slots := 2, body := [CS.ite (CE.p1 P1.not (CE.chain (CE.lit (V.int 0)) [P2.le, P2.lt] [CE.var 1,CE.p1 P1.len (CE.attr (CE.var 0) 0)])) [CS.raise (Cls.NoOrder)] []] }
noncomputable def fB_2 : Fn := { params := 2, slots := 2, body := [CS.ite (CE.or (CE.p2 P2.eq (CE.p1 P1.len (CE.var 1)) (CE.lit (V.int 0))) (CE.or (CE.p2 P2.notIn (CE.p2 P2.index (CE.var 1) (CE.lit (V.int 0))) (CE.lit (V.parts))) (CE.p2 P2.ne (CE.p1 P1.len (CE.var 1)) (CE.p2 P2.index (CE.lit (V.parts)) (CE.p2 P2.index (CE.var 1) (CE.lit (V.int 0))))))) [CS.raise (Cls.NoDeed)] [],CS.ite (CE.p2 P2.eq (CE.p2 P2.index (CE.var 1) (CE.lit (V.int 0))) (CE.lit (V.str { cps := #[111,114,100,101,114] }))) [CS.ret (CE.callm 3 (CE.var 0) [CE.p2 P2.index (CE.var 1) (CE.lit (V.int 1))])] [],CS.exp (CE.callm 4 (CE.var 0) [CE.var 1]),CS.ret (CE.callm 6 (CE.var 0) [CE.var 1])] }
noncomputable def zO7 (t : Bool) : Fn := { params := 2, slots := 2, body := [CS.exp (CE.call 22 [CE.var 1]),CS.ite (CE.p2 P2.ge (CE.p1 P1.len (CE.attr (CE.var 0) 0)) (CE.lit (V.int 40))) [CS.raise (Cls.FullBook)] [],CS.exp (CE.append (CE.attr (CE.var 0) 0) (CE.tup [CE.p1 P1.toTup (CE.comp (CE.call 23 [CE.var 2]) SK.val [CE.var 1] none),CE.lit (V.int 0),CE.tup []])),CS.exp (CE.append (CE.attr (CE.var 0) 1) (CE.tup [CE.tup [CE.lit (V.str { cps := #[111,114,100,101,114] }),CE.p1 P1.toList (CE.var 1)],CE.dict0])),CS.ret (tr t (CE.list []))] }
noncomputable def fB_4 : Fn := { params := 2, slots := 2, body := [CS.exp (CE.callm 1 (CE.var 0) [CE.p2 P2.index (CE.var 1) (CE.lit (V.int 1))]),CS.ite (CE.p2 P2.eq (CE.p2 P2.index (CE.var 1) (CE.lit (V.int 0))) (CE.lit (V.str { cps := #[109,111,118,101] }))) [CS.exp (CE.callm 1 (CE.var 0) [CE.p2 P2.index (CE.var 1) (CE.lit (V.int 2))]),CS.ite (CE.p2 P2.eq (CE.p2 P2.index (CE.var 1) (CE.lit (V.int 1))) (CE.p2 P2.index (CE.var 1) (CE.lit (V.int 2)))) [CS.raise (Cls.SameOrder)] []] [],CS.ite (CE.and (CE.p2 P2.isIn (CE.p2 P2.index (CE.var 1) (CE.lit (V.int 0))) (CE.lit (V.tup [V.str { cps := #[100,101,108,105,118,101,114] }, V.str { cps := #[98,97,99,107] }, V.str { cps := #[115,119,97,112] }, V.str { cps := #[99,114,101,100,105,116] }]))) (CE.p1 P1.not (CE.chain (CE.lit (V.int 0)) [P2.le, P2.lt] [CE.p2 P2.index (CE.var 1) (CE.lit (V.int 2)),CE.p1 P1.len (CE.p2 P2.index (CE.p2 P2.index (CE.attr (CE.var 0) 0) (CE.p2 P2.index (CE.var 1) (CE.lit (V.int 1)))) (CE.lit (V.int 0)))]))) [CS.raise (Cls.NoLine)] [],CS.ite (CE.p2 P2.lt (CE.p2 P2.index (CE.var 1) (CE.p1 P1.neg (CE.lit (V.int 1)))) (CE.lit (V.int 1))) [CS.raise (Cls.NoNumber)] [],CS.ite (CE.and (CE.p2 P2.ne (CE.p2 P2.index (CE.var 1) (CE.lit (V.int 0))) (CE.lit (V.str { cps := #[112,97,121] }))) (CE.p2 P2.gt (CE.p2 P2.index (CE.var 1) (CE.p1 P1.neg (CE.lit (V.int 1)))) (CE.callm 5 (CE.var 0) [CE.var 1]))) [CS.raise (Cls.TooMuch)] []] }
noncomputable def zO8 : Fn := { params := 2, slots := 2, body := [CS.ite (CE.p2 P2.isIn (CE.p2 P2.index (CE.var 1) (CE.lit (V.int 0))) (CE.lit (V.tup [V.str { cps := #[100,101,108,105,118,101,114] }, V.str { cps := #[98,97,99,107] }, V.str { cps := #[115,119,97,112] }, V.str { cps := #[99,114,101,100,105,116] }]))) [CS.ret (CE.call 25 [CE.p2 P2.index (CE.var 1) (CE.lit (V.int 0)),CE.p2 P2.index (CE.p2 P2.index (CE.p2 P2.index (CE.attr (CE.var 0) 0) (CE.p2 P2.index (CE.var 1) (CE.lit (V.int 1)))) (CE.lit (V.int 0))) (CE.p2 P2.index (CE.var 1) (CE.lit (V.int 2)))])] [],CS.ret (CE.p2 P2.sub (CE.lit (V.int 0)) (CE.callm 13 (CE.var 0) [CE.p2 P2.index (CE.var 1) (CE.lit (V.int 1))]))] }
noncomputable def zO9 (t : Bool) : Fn := { params := 2, slots := 5, body := [CS.asg 2 (CE.p2 P2.index (CE.var 1) (CE.lit (V.int 0))),CS.asg 3 (CE.p2 P2.index (CE.var 1) (CE.p1 P1.neg (CE.lit (V.int 1)))),CS.asg 4 (CE.dict1 (CE.p2 P2.index (CE.var 1) (CE.lit (V.int 1))) (CE.p2 P2.index (CE.attr (CE.var 0) 0) (CE.p2 P2.index (CE.var 1) (CE.lit (V.int 1))))),CS.ite (CE.p2 P2.eq (CE.var 2) (CE.lit (V.str { cps := #[109,111,118,101] }))) [CS.setItem (CE.var 4) (CE.p2 P2.index (CE.var 1) (CE.lit (V.int 2))) (CE.p2 P2.index (CE.attr (CE.var 0) 0) (CE.p2 P2.index (CE.var 1) (CE.lit (V.int 2))))] [],CS.exp (CE.append (CE.attr (CE.var 0) 1) (CE.tup [CE.var 1,CE.var 4])),CS.ite (CE.p2 P2.eq (CE.var 2) (CE.lit (V.str { cps := #[109,111,118,101] }))) [CS.ret (tr t (CE.list [CE.callm 7 (CE.var 0) [CE.p2 P2.index (CE.var 1) (CE.lit (V.int 1)),CE.var 2,CE.p2 P2.sub (CE.lit (V.int 0)) (CE.var 3)],CE.callm 7 (CE.var 0) [CE.p2 P2.index (CE.var 1) (CE.lit (V.int 2)),CE.var 2,CE.var 3]]))] [],CS.ite (CE.p2 P2.eq (CE.var 2) (CE.lit (V.str { cps := #[112,97,121] }))) [CS.ret (tr t (CE.list [CE.callm 7 (CE.var 0) [CE.p2 P2.index (CE.var 1) (CE.lit (V.int 1)),CE.var 2,CE.var 3]]))] [],CS.ite (CE.p2 P2.eq (CE.var 2) (CE.lit (V.str { cps := #[114,101,102,117,110,100] }))) [CS.ret (tr t (CE.list [CE.callm 7 (CE.var 0) [CE.p2 P2.index (CE.var 1) (CE.lit (V.int 1)),CE.var 2,CE.p2 P2.sub (CE.lit (V.int 0)) (CE.var 3)]]))] [],CS.ret (tr t (CE.list [CE.callm 8 (CE.var 0) [CE.p2 P2.index (CE.var 1) (CE.lit (V.int 1)),CE.p2 P2.index (CE.var 1) (CE.lit (V.int 2)),CE.var 2,CE.var 3]]))] }
noncomputable def zPA : Fn := { params := 4, slots := 5, body := [CS.asg 4 (CE.p2 P2.index (CE.attr (CE.var 0) 0) (CE.var 1)),CS.setItem (CE.attr (CE.var 0) 0) (CE.var 1) (CE.tup [CE.p2 P2.index (CE.var 4) (CE.lit (V.int 0)),CE.p2 P2.add (CE.p2 P2.index (CE.var 4) (CE.lit (V.int 1))) (CE.var 3),CE.p2 P2.add (CE.p2 P2.index (CE.var 4) (CE.lit (V.int 2))) (CE.tup [CE.tup [CE.var 2,CE.p2 P2.sub (CE.lit (V.int 0)) (CE.var 3)]])]),CS.ret (CE.tup [CE.var 1,CE.p2 P2.sub (CE.lit (V.int 0)) (CE.var 3)])] }
noncomputable def zPB : Fn := { params := 5, slots := 10, body := [CS.asg 5 (CE.p2 P2.index (CE.attr (CE.var 0) 0) (CE.var 1)),CS.asg 6 (CE.p2 P2.index (CE.p2 P2.index (CE.var 5) (CE.lit (V.int 0))) (CE.var 2)),CS.asg 7 (CE.call 26 [CE.var 3,CE.var 6,CE.var 4]),CS.asg 8 (CE.p2 P2.sub (CE.call 24 [CE.var 7]) (CE.call 24 [CE.var 6])),CS.asg 9 (CE.p2 P2.add (CE.p2 P2.add (CE.slice (CE.p2 P2.index (CE.var 5) (CE.lit (V.int 0))) none (some (CE.var 2))) (CE.tup [CE.var 7])) (CE.slice (CE.p2 P2.index (CE.var 5) (CE.lit (V.int 0))) (some (CE.p2 P2.add (CE.var 2) (CE.lit (V.int 1)))) none)),CS.setItem (CE.attr (CE.var 0) 0) (CE.var 1) (CE.tup [CE.var 9,CE.p2 P2.index (CE.var 5) (CE.lit (V.int 1)),CE.p2 P2.add (CE.p2 P2.index (CE.var 5) (CE.lit (V.int 2))) (CE.tup [CE.tup [CE.var 3,CE.var 8]])]),CS.ret (CE.tup [CE.var 1,CE.var 8])] }
noncomputable def zMS : Fn := { params := 1, slots := 1, body := [CS.ret (CE.p1 P1.len (CE.attr (CE.var 0) 0))] }
noncomputable def zJm : Fn := { params := 2, slots := 2, body := [CS.exp (CE.callm 1 (CE.var 0) [CE.var 1]),CS.ret (CE.p2 P2.index (CE.p2 P2.index (CE.attr (CE.var 0) 0) (CE.var 1)) (CE.lit (V.int 1)))] }
noncomputable def zJn : Fn := { params := 2, slots := 2, body := [CS.exp (CE.callm 1 (CE.var 0) [CE.var 1]),CS.ret (CE.p2 P2.sub (CE.p1 P1.sum (CE.comp (CE.call 24 [CE.var 2]) SK.val [CE.p2 P2.index (CE.p2 P2.index (CE.attr (CE.var 0) 0) (CE.var 1)) (CE.lit (V.int 0))] none)) (CE.p2 P2.index (CE.p2 P2.index (CE.attr (CE.var 0) 0) (CE.var 1)) (CE.lit (V.int 1))))] }
structure zN (T : Nat -> Option Fn) (t : Bool := false) : Prop where
 b0 : T 0 = some zO5
 b1 : T 1 = some zO6
 b2 : T 2 = some fB_2
 b3 : T 3 = some (zO7 t)
 b4 : T 4 = some fB_4
 b5 : T 5 = some zO8
 b6 : T 6 = some (zO9 t)
 b7 : T 7 = some zPA
 b8 : T 8 = some zPB
 b10 : T 10 = some zMS
 b12 : T 12 = some zJm
 b13 : T 13 = some zJn
 b20 : T 20 = some zMT
 b21 : T 21 = some zMU
 b22 : T 22 = some fB_22
 b23 : T 23 = some zMV
 b24 : T 24 = some zMW
 b25 : T 25 = some zMX
 b26 : T 26 = some zMY
end Mine
end

section
namespace Mine
open PySem
structure Ln where
 item : Str
 p : Int
 c : Int
 k : Int
 s : Int
 b : Int
 a : Int
 r : Int
noncomputable def Ln.v (l : Ln) : V := .tup [.str l.item, .int l.p, .int l.c, .int l.k, .int l.s, .int l.b, .int l.a, .int l.r]
structure Ln.ok (l : Ln) : Prop where
 p1 : 1 <= l.p
 p2 : l.p <= 1000000
 c1 : 0 <= l.c
 c2 : l.c <= 1000000000
 k1 : 1 <= l.k
 k2 : l.k <= 1000
noncomputable def Ln.worth (l : Ln) : Int := ((l.s - l.b) * l.c).fdiv l.k
noncomputable def Ln.charge (l : Ln) : Int := l.worth - l.r
structure Or where
 lines : List Ln
 paid : Int
 rows : List (Str × Int)
noncomputable def yO (r : Str × Int) : V := .tup [.str r.1, .int r.2]
noncomputable def Or.v (o : Or) : V := .tup [.tup (o.lines.map Ln.v), .int o.paid, .tup (o.rows.map yO)]
noncomputable def Or.owed (o : Or) : Int := (o.lines.map Ln.charge).sum - o.paid
noncomputable def jx : Str := { cps := #[100, 101, 108, 105, 118, 101, 114] }
noncomputable def zEZ : Str := { cps := #[98, 97, 99, 107] }
noncomputable def zEb : Str := { cps := #[115, 119, 97, 112] }
noncomputable def zEa : Str := { cps := #[99, 114, 101, 100, 105, 116] }
noncomputable def wM : Str := { cps := #[112, 97, 121] }
noncomputable def jy : Str := { cps := #[114, 101, 102, 117, 110, 100] }
noncomputable def yW : Str := { cps := #[109, 111, 118, 101] }
noncomputable def kF : Str := { cps := #[111, 114, 100, 101, 114] }
inductive Wd where
 | del | back | swap | cred
noncomputable def Wd.s : Wd -> Str
 | .del => jx
 | .back => zEZ
 | .swap => zEb
 | .cred => zEa
noncomputable def xZ (w : Wd) (l : Ln) : Int :=
 match w with
 | .del => l.p - l.s + l.a
 | .cred => l.charge
 | _ => l.s - l.b
noncomputable def zIy (x y : Int) : Int := if y < x then y else x
noncomputable def zX (w : Wd) (l : Ln) (n : Int) : Ln :=
 match w with
 | .del => { l with s := l.s + n }
 | .cred => { l with r := l.r + n }
 | .back => { l with b := l.b + n, r := zIy l.r (((l.s - (l.b + n)) * l.c).fdiv l.k) }
 | .swap => { l with b := l.b + n, a := l.a + n, r := zIy l.r (((l.s - (l.b + n)) * l.c).fdiv l.k) }
theorem zDU {l : Ln} (h : l.ok) : zk l.c = true := by
 have h1 := h.c1; have h2 := h.c2
 simp only [zk, decide_eq_true_eq]
 omega
theorem zE9 {k : Int} (h1 : 1 <= k) (h2 : k <= 1000) : (k == 0 || decide (1073741824 <= k.natAbs)) = false := by
 rw [Bool.or_eq_false_iff, beq_eq_false_iff_ne, decide_eq_false_iff_not]
 omega
noncomputable def rv (t : Bool) (U : Sto) (vs : List V) : V := match t with
 | true => .ref U.length
 | false => .lst vs
noncomputable def rs (t : Bool) (U : Sto) (vs : List V) : Sto := match t with
 | true => U ++ [.list vs]
 | false => U
theorem zD0 {F : Calls} {q : Bool} {J : List V} {U U1 : Sto} {t : Bool} {es : List CE} {vs : List V} (h : evL F q es J U = .ok vs U1) : evE F q (tr t (.list es)) J U = .ok (rv t U1 vs) (rs t U1 vs) := by
 cases t with
 | false => exact xl h
 | true =>
  show evE F q (.trk (.list es)) J U = _
  rw [kq, xl h]; rfl
section
variable {T : Nat -> Option Fn} {t : Bool} {d : Nat} {q : Bool} {U : Sto}
theorem zFz (HT : zN T t) {a c k : Int} (hc : zk c = true) (hk : (k == 0 || decide (1073741824 <= k.natAbs)) = false) : zA T (d + 1) q 20 [.int a, .int c, .int k] U = .ok (.int ((a * c).fdiv k)) U :=
 zH HT.b20 rfl (zJ (zD (zD rfl rfl (yI U a c (.inr hc))) rfl (wG U (a * c) k hk)))
theorem jL (HT : zN T t) {l : Ln} (h : l.ok) : zA T (d + 2) q 24 [l.v] U = .ok (.int l.charge) U :=
 zH HT.b24 rfl (zJ (zD (zK (vs := [.int (l.s - l.b), .int l.c, .int l.k]) rfl (zFz HT (zDU h) (zE9 h.k1 h.k2))) rfl rfl))
theorem zG5 (HT : zN T t) {l : Ln} (h : l.ok) (w : Wd) : zA T (d + 3) q 25 [.str w.s, l.v] U = .ok (.int (xZ w l)) U := by
 refine zH HT.b25 rfl ?_
 cases w with
 | del => exact s_t rfl (zJ rfl)
 | cred => exact s_f rfl (s_t rfl (zJ (zK rfl (jL HT h))))
 | back => exact s_f rfl (s_f rfl (zJ rfl))
 | swap => exact s_f rfl (s_f rfl (zJ rfl))
theorem zJC (HT : zN T t) {l : Ln} (h : l.ok) (w : Wd) (n : Int) : zA T (d + 2) false 26 [.str w.s, l.v, .int n] U = .ok (zX w l n).v U := by
 refine zH HT.b26 rfl ?_
 refine zG (v := .int l.s) rfl (zG (v := .int l.b) rfl (zG (v := .int l.a) rfl (zG (v := .int l.r) rfl ?_)))
 have w20 : ∀ a : Int, zA T (d + 1) false 20 [.int a, .int l.c, .int l.k] U = .ok (.int ((a * l.c).fdiv l.k)) U := fun a => zFz HT (zDU h) (zE9 h.k1 h.k2)
 cases w with
 | del => exact s_t rfl (zG rfl (zJ rfl))
 | cred => exact s_f rfl (s_t rfl (zG rfl (zJ rfl)))
 | back => exact s_f rfl (s_f rfl (zG (v := .int (l.b + n)) rfl (s_f rfl (zG (zD rfl (zK rfl (w20 _)) rfl) (zJ rfl)))))
 | swap => exact s_f rfl (s_f rfl (zG (v := .int (l.b + n)) rfl (s_t rfl (zG (v := .int (l.a + n)) rfl (zG (zD rfl (zK rfl (w20 _)) rfl) (zJ rfl))))))
end
end Mine
end

section
namespace Mine
open PySem
structure BookIn (U : Sto) (b e h : Nat) (es hs : List V) : Prop where
 inst : U[b]? = some (.inst [(1, .ref h), (0, .ref e)])
 ent : U[e]? = some (.list es)
 his : U[h]? = some (.list hs)
 ne : e ≠ h
theorem zNs {U : Sto} {n : Nat} {xs : List V} (h : U[n]? = some (.list xs)) : ev1 .len U (.ref n) = some (.int xs.length) := vH U h
section
variable {T : Nat -> Option Fn} {t : Bool} {F : Calls} {d : Nat} {q : Bool} {U : Sto} {b e h : Nat} {es hs : List V} {J : List V}
theorem BookIn.isInst (B : BookIn U b e h es hs) : isInst U (.ref b) = true := by
 show (match U[b]? with | some (.inst _) => true | _ => false) = true
 rw [B.inst]
theorem BookIn.a0 (B : BookIn U b e h es hs) : zBM U (.ref b) 0 = some (.ref e) := by
 show zFy 0 U[b]? = _
 rw [B.inst]; rfl
theorem BookIn.a1 (B : BookIn U b e h es hs) : zBM U (.ref b) 1 = some (.ref h) := by
 show zFy 1 U[b]? = _
 rw [B.inst]; rfl
theorem zC8 (h0 : zI J 0 = some (.ref b)) : evE F q (.var 0) J U = .ok (.ref b) U := by rw [zp, h0]; rfl
theorem zGE (B : BookIn U b e h es hs) (h0 : zI J 0 = some (.ref b)) : evE F q (.attr (.var 0) 0) J U = .ok (.ref e) U := zJZ (zC8 h0) B.a0
theorem zJa (B : BookIn U b e h es hs) (h0 : zI J 0 = some (.ref b)) : evE F q (.attr (.var 0) 1) J U = .ok (.ref h) U := zJZ (zC8 h0) B.a1
theorem zFA (B : BookIn U b e h es hs) (h0 : zI J 0 = some (.ref b)) : evE F q (.p1 .len (.attr (.var 0) 0)) J U = .ok (.int es.length) U := ze (zGE B h0) (zNs B.ent)
theorem xO (B : BookIn U b e h es hs) (h0 : zI J 0 = some (.ref b)) {c : CE} {o : Nat} {v : V} (hc : evE F q c J U = .ok (.int o) U) (hv : es[o]? = some v) : evE F q (.p2 .index (.attr (.var 0) 0) c) J U = .ok v U :=
 zD (zGE B h0) hc (zU U B.ent hv)
theorem yD {a b c : CE} {x y : Int} (ha : evE F q a J U = .ok (.int 0) U) (hb : evE F q b J U = .ok (.int x) U) (hc : evE F q c J U = .ok (.int y) U) : evE F q (.chain a [.le, .lt] [b, c]) J U = .ok (.bool (decide (0 <= x) && decide (x < y))) U := by
 rw [zA8, ha, R.bind_ok, zGs, hb]
 show (if decide (0 <= x) = true then evChain F q [P2.lt] [c] (.int x) J U else .ok (.bool (decide (0 <= x))) U) = _
 cases decide (0 <= x) with
 | false => rfl
 | true =>
  show evChain F q [P2.lt] [c] (.int x) J U = _
  rw [zGr, hc]; rfl
theorem in_iff {n : Nat} {o : Int} : (decide (0 <= o) && decide (o < (n : Int))) = true ↔ ∃ k : Nat, o = k /\ k < n := by
 rw [Bool.and_eq_true, decide_eq_true_eq, decide_eq_true_eq]
 constructor
 ·rintro ⟨h1, h2⟩; exact ⟨o.toNat, (Int.toNat_of_nonneg h1).symm, (Int.toNat_lt h1).mpr h2⟩
 ·rintro ⟨k, rfl, h⟩; exact ⟨Int.natCast_nonneg k, Int.ofNat_lt.mpr h⟩
theorem zNC (HT : zN T t) (B : BookIn U b e h es hs) {o : Nat} (ho : o < es.length) : zA T (d + 1) q 1 [.ref b, .int o] U = .ok .none U :=
 wA HT.b1 rfl (s_f (zE (ze (yD rfl rfl (zFA B rfl)) (by rw [in_iff.mpr ⟨o, rfl, ho⟩]; rfl))) rfl)
theorem zLO (HT : zN T t) (B : BookIn U b e h es hs) {o : Int} (ho : (decide (0 <= o) && decide (o < (es.length : Int))) = false) : zA T (d + 1) false 1 [.ref b, .int o] U = .exc .NoOrder U :=
 zb HT.b1 rfl (s_t (zE (ze (yD rfl rfl (zFA B rfl)) (by rw [ho]; rfl))) rfl)
theorem xo (HT : zN T t) (B : BookIn U b e h es hs) (h0 : zI J 0 = some (.ref b)) {c : CE} {o : Nat} (hc : evE (zA T (d + 1) q) q c J U = .ok (.int o) U) (ho : o < es.length) {rest : List CS} {Fq : Calls} {r : R Fl} (k : exL (zA T (d + 1) q) Fq q rest J U = r) :
  exL (zA T (d + 1) q) Fq q (.exp (.callm 1 (.var 0) [c]) :: rest) J U = r :=
 yP (zS (zC8 h0) B.isInst (zC hc rfl) (zNC HT B ho)) k
theorem xd (HT : zN T t) (B : BookIn U b e h es hs) (h0 : zI J 0 = some (.ref b)) {c : CE} {o : Int} (hc : evE (zA T (d + 1) false) false c J U = .ok (.int o) U) (ho : (decide (0 <= o) && decide (o < (es.length : Int))) = false) {rest : List CS} {Fq : Calls} :
  exL (zA T (d + 1) false) Fq false (.exp (.callm 1 (.var 0) [c]) :: rest) J U = .exc .NoOrder U :=
 zBc (zS (zC8 h0) B.isInst (zC hc rfl) (zLO HT B ho))
theorem zGF (B : BookIn U b e h es hs) (h0 : zI J 0 = some (.ref b)) {o : Nat} {u : Or} {ce : CE} {g : Ln -> V} (h1 : zI J 1 = some (.int o)) (hu : es[o]? = some u.v) (hl : u.lines.length < LIM)
  (hg : ∀ l ∈ u.lines, evE F false ce (J ++ [l.v]) U = .ok (g l) U) :
  evE F false (.comp ce .val [.p2 .index (.p2 .index (.attr (.var 0) 0) (.var 1)) (.lit (.int 0))] none) J U = .ok (.lst (u.lines.map g)) U := by
 have := yi (F := F) (elt := ce) (k := .val) (src := [.p2 .index (.p2 .index (.attr (.var 0) 0) (.var 1)) (.lit (.int 0))]) (cond := none) (J := J) (U := U) (l := u.lines) (φ := Ln.v) (fun _ => true) g
  (zC (zD (o := .index) (b := .lit (.int 0)) (y := .int 0) (z := .tup (u.lines.map Ln.v)) (xO B h0 (by rw [zp, h1]; rfl) hu) rfl rfl) rfl) (zEM U) (.inl rfl) hl (fun _ _ => rfl) (fun l hl _ => hg l hl)
 rwa [xJ] at this
theorem zJD (HT : zN T t) (B : BookIn U b e h es hs) {o : Nat} {u : Or} (hu : es[o]? = some u.v) (hl : u.lines.length < LIM) (hok : ∀ l ∈ u.lines, l.ok) : zA T (d + 3) false 13 [.ref b, .int o] U = .ok (.int u.owed) U :=
 zH HT.b13 rfl (xo HT B rfl rfl (List.getElem?_eq_some_iff.mp hu).1 (zJ (zD
  (ze (zGF B rfl rfl hu hl (g := fun l => .int l.charge) fun l hm => zK rfl (jL HT (hok l hm)))
   (by rw [show u.lines.map (fun l => V.int l.charge) = iv (u.lines.map Ln.charge) by rw [iv, List.map_map]; rfl]; exact xg U _))
  (zD (xO B rfl rfl hu) rfl rfl) rfl)))
noncomputable def xV (l : Ln) : V := .tup [.str l.item, .int l.p, .int l.s, .int l.b, .int l.a, .int l.r]
end
end Mine
end

section
namespace Mine
open PySem
structure Or.ok (u : Or) : Prop where
 few : u.lines.length <= 20
 ls : ∀ l ∈ u.lines, l.ok
theorem Or.ok.lim {u : Or} (h : u.ok) : u.lines.length < LIM := Nat.lt_of_le_of_lt h.few (by decide)
noncomputable def dL (w : Wd) (o k n : Int) : V := .tup [.str w.s, .int o, .int k, .int n]
noncomputable def yd (U : Sto) : Option Cls -> R V
 | none => .ok .none U
 | some c => .exc c U
noncomputable def atI {α : Type} (l : List α) (i : Int) : Option α := if (decide (0 <= i) && decide (i < (l.length : Int))) = true then l[i.toNat]? else none
noncomputable def wF (n m : Int) : Option Cls := if n < 1 then some .NoNumber else if n > m then some .TooMuch else none
noncomputable def zJf (w : Wd) (n : Int) : Option Ln -> Option Cls
 | none => some .NoLine
 | some l => wF n (xZ w l)
noncomputable def zHG (w : Wd) (k n : Int) : Option Or -> Option Cls
 | none => some .NoOrder
 | some u => zJf w n (atI u.lines k)
noncomputable def zJg (us : List Or) (w : Wd) (o k n : Int) : Option Cls := zHG w k n (atI us o)
theorem zf {α : Type} {l : List α} {i : Int} {x : α} (h : atI l i = some x) : ∃ k : Nat, i = k /\ l[k]? = some x := by
 unfold atI at h
 split at h
 ·rename_i hc
  obtain ⟨k, rfl, _⟩ := in_iff.mp hc
  exact ⟨k, rfl, h⟩
 ·cases h
theorem wD {α : Type} {l : List α} {i : Int} (h : atI l i = none) : (decide (0 <= i) && decide (i < (l.length : Int))) = false := by
 unfold atI at h
 split at h
 ·rename_i hc
  obtain ⟨k, rfl, hk⟩ := in_iff.mp hc
  rw [show (k : Int).toNat = k from rfl, List.getElem?_eq_none_iff] at h
  omega
 ·rename_i hc; exact Bool.eq_false_iff.mpr hc
section
variable {T : Nat -> Option Fn} {t : Bool} {F Fq : Calls} {d : Nat} {q : Bool} {U : Sto} {b e h : Nat} {us : List Or} {hs : List V} {J : List V}
theorem wW (w : Wd) : ev2 .eq U (.str w.s) (.str yW) = some (.bool false) := by cases w <;> rfl
theorem zGn (w : Wd) : ev2 .eq U (.str w.s) (.str wM) = some (.bool false) := by cases w <;> rfl
theorem zGo (w : Wd) : ev2 .eq U (.str w.s) (.str jy) = some (.bool false) := by cases w <;> rfl
theorem zCu (w : Wd) : ev2 .eq U (.str w.s) (.str kF) = some (.bool false) := by cases w <;> rfl
theorem zKz (w : Wd) : ev2 .ne U (.str w.s) (.str wM) = some (.bool true) := by cases w <;> rfl
theorem zOY (w : Wd) : ev2 .isIn U (.str w.s) (.tup [.str jx, .str zEZ, .str zEb, .str zEa]) = some (.bool true) := by cases w <;> rfl
theorem zMC (w : Wd) : ev2 .notIn U (.str w.s) .parts = some (.bool false) := by cases w <;> rfl
theorem zOX (w : Wd) : ev2 .index U .parts (.str w.s) = some (.int 4) := by cases w <;> rfl
theorem xF {o : Nat} {u : Or} (hu : us[o]? = some u) : (us.map Or.v)[o]? = some u.v := by rw [List.getElem?_map, hu]; rfl
theorem zNB (HT : zN T t) (B : BookIn U b e h (us.map Or.v) hs) {w : Wd} {o k : Nat} {n : Int} {u : Or} {l : Ln} (hu : us[o]? = some u) (hl : u.lines[k]? = some l) (h1 : l.ok) :
  zA T (d + 4) q 5 [.ref b, dL w o k n] U = .ok (.int (xZ w l)) U :=
 zH HT.b5 rfl (s_t (zE (zD rfl rfl (zOY w))) (zJ (zK (zC rfl (zC (zD (zD (z := .tup (u.lines.map Ln.v)) (xO B rfl rfl (xF hu)) rfl rfl) rfl (wa U (by rw [List.getElem?_map, hl]; rfl))) rfl)) (zG5 HT h1 w))))
theorem zDd (HT : zN T t) (B : BookIn U b e h (us.map Or.v) hs) (hok : ∀ u ∈ us, u.ok) (w : Wd) (o k n : Int) :
  zA T (d + 5) false 4 [.ref b, dL w o k n] U = yd U (zJg us w o k n) := by
 show _ = yd U (zHG w k n (atI us o))
 cases ho : atI us o with
 | none => exact zb HT.b4 rfl (xd HT B rfl rfl (by rw [List.length_map]; exact wD ho))
 | some u =>
  obtain ⟨o, rfl, hu⟩ := zf ho
  have hi : o < (us.map Or.v).length := by rw [List.length_map]; exact (List.getElem?_eq_some_iff.mp hu).1
  have hlen : ∀ {F : Calls}, evE F false (.p1 .len (.p2 .index (.p2 .index (.attr (.var 0) 0) (.p2 .index (.var 1) (.lit (.int 1)))) (.lit (.int 0)))) [.ref b, dL w o k n] U = .ok (.int u.lines.length) U :=
   ze (zD (z := .tup (u.lines.map Ln.v)) (xO B rfl rfl (xF hu)) rfl rfl) (by rw [zD5, List.length_map])
  show _ = yd U (zJf w n (atI u.lines k))
  cases hk : atI u.lines k with
  | none =>
   exact zb HT.b4 rfl (xo HT B rfl rfl hi (s_f (zE (zD rfl rfl (wW w)))
    (s_t (zE (zq (zD rfl rfl (zOY w)) rfl (ze (yD rfl rfl hlen) (by rw [wD hk]; rfl)))) rfl)))
  | some l =>
   obtain ⟨k, rfl, hl⟩ := zf hk
   have hm := zNB (d := d) (q := false) (n := n) (w := w) HT B hu hl ((hok u (List.mem_of_getElem? hu)).ls l (List.mem_of_getElem? hl))
   have pre : ∀ {r : R Fl} , exL (zA T (d + 4) false) (zA T (d + 4) true) false (fB_4.body.drop 3) [.ref b, dL w o k n] U = r -> exL (zA T (d + 4) false) (zA T (d + 4) true) false fB_4.body [.ref b, dL w o k n] U = r := fun kk =>
    xo HT B rfl rfl hi (s_f (zE (zD rfl rfl (wW w)))
     (s_f (zE (zq (zD rfl rfl (zOY w)) rfl (ze (yD rfl rfl hlen) (by rw [in_iff.mpr ⟨k, rfl, (List.getElem?_eq_some_iff.mp hl).1⟩]; rfl)))) kk))
   have g : evE (zA T (d + 4) false) false (.and (.p2 .ne (.p2 .index (.var 1) (.lit (.int 0))) (.lit (.str wM))) (.p2 .gt (.p2 .index (.var 1) (.p1 .neg (.lit (.int 1)))) (.callm 5 (.var 0) [.var 1]))) [.ref b, dL w o k n] U = .ok (.bool (decide (n > xZ w l))) U :=
    zq (zD rfl rfl (zKz w)) rfl (zD rfl (zS rfl B.isInst rfl hm) rfl)
   show _ = yd U (wF n (xZ w l))
   unfold wF
   by_cases h1 : n < 1
   ·rw [if_pos h1]
    exact zb HT.b4 rfl (pre (s_t (zE (t := true) (zD rfl rfl (show _ = some (V.bool true) by rw [xG, decide_eq_true h1]))) rfl))
   ·rw [if_neg h1]
    have h1' : evC (zA T (d + 4) false) false (some (.p2 .lt (.p2 .index (.var 1) (.p1 .neg (.lit (.int 1)))) (.lit (.int 1)))) [.ref b, dL w o k n] U = .ok false U :=
     zE (zD rfl rfl (show ev2 .lt U (.int n) (.int 1) = some (V.bool false) by rw [xG, decide_eq_false h1]))
    by_cases h2 : n > xZ w l
    ·rw [if_pos h2]
     exact zb HT.b4 rfl (pre (s_f h1' (s_t (zE (by rw [decide_eq_true h2] at g; exact g)) rfl)))
    ·rw [if_neg h2]
     exact wA HT.b4 rfl (pre (s_f h1' (s_f (zE (by rw [decide_eq_false h2] at g; exact g)) rfl)))
end
end Mine
end

section
namespace Mine
open PySem
section
variable {T : Nat -> Option Fn} {t : Bool} {F Fq : Calls} {d : Nat} {q : Bool} {U : Sto} {b e h : Nat} {es hs : List V} {J : List V}
theorem zGG {a : CE} {lo hi : Option CE} {x z : V} {i j : Option Int} (ha : evE F q a J U = .ok x U) (hl : evO F q lo J U = .ok i U) (hh : evO F q hi J U = .ok j U) (h : wp U x i j = some z) : evE F q (.slice a lo hi) J U = .ok z U := by
 rw [zGx, ha, R.bind_ok, hl, R.bind_ok, hh, R.bind_ok, h]; rfl
theorem yz {x : O} {i : Nat} {y : O} (hi : U[i]? = some y) : (U ++ [x])[i]? = some y := by
 rw [List.getElem?_append_left (List.getElem?_eq_some_iff.mp hi).1]; exact hi
theorem zP {i j : Nat} {x y : O} (hi : U[i]? = some y) (hne : j ≠ i) : (U.set j x)[i]? = some y := by
 rw [List.getElem?_set_ne hne]; exact hi
theorem yF {i : Nat} {x y : O} (hi : U[i]? = some y) : (U.set i x)[i]? = some x :=
 List.getElem?_set_self (List.getElem?_eq_some_iff.mp hi).1
theorem BookIn.bh (B : BookIn U b e h es hs) : h ≠ b := fun q => by have := B.inst; rw [<- q, B.his] at this; cases this
theorem BookIn.be (B : BookIn U b e h es hs) : e ≠ b := fun q => by have := B.inst; rw [<- q, B.ent] at this; cases this
theorem BookIn.push (B : BookIn U b e h es hs) (x : O) : BookIn (U ++ [x]) b e h es hs := ⟨yz B.inst, yz B.ent, yz B.his, B.ne⟩
theorem BookIn.setH (B : BookIn U b e h es hs) (hs' : List V) : BookIn (U.set h (.list hs')) b e h es hs' :=
 ⟨zP B.inst B.bh, zP B.ent B.ne.symm, yF B.his, B.ne⟩
theorem BookIn.setE (B : BookIn U b e h es hs) (es' : List V) : BookIn (U.set e (.list es')) b e h es' hs :=
 ⟨zP B.inst B.be, yF B.ent, zP B.his B.ne, B.ne⟩
theorem zGh (B : BookIn U b e h es hs) (h0 : zI J 0 = some (.ref b)) {c v : CE} {o : Nat} {x : V} (hv : evE F q v J U = .ok x U) (hc : evE F q c J U = .ok (.int o) U) (ho : o < es.length) {rest : List CS} {r : R Fl} (k : exL F Fq q rest J (U.set e (.list (es.set o x))) = r) :
  exL F Fq q (.setItem (.attr (.var 0) 0) c v :: rest) J U = r :=
 yQ hv (zGE B h0) hc (xH U B.ent ho) k
theorem zKn {xs : List V} {k : Nat} (hk : k < xs.length) : wp U (.tup xs) none (some (k : Int)) = some (.tup (xs.take k)) := by
 show some (V.tup ((xs.take (if (k : Int) < 0 then ((k : Int) + xs.length).toNat else min (k : Int).toNat xs.length)).drop 0)) = _
 rw [if_neg (by omega), Int.toNat_natCast, Nat.min_eq_left (Nat.le_of_lt hk), List.drop_zero]
theorem zFj {xs : List V} {k : Nat} (hk : k < xs.length) : wp U (.tup xs) (some ((k : Int) + 1)) none = some (.tup (xs.drop (k + 1))) := by
 show some (V.tup ((xs.take xs.length).drop (if (k : Int) + 1 < 0 then ((k : Int) + 1 + xs.length).toNat else min ((k : Int) + 1).toNat xs.length))) = _
 rw [if_neg (by omega), List.take_length, show ((k : Int) + 1).toNat = k + 1 by omega, Nat.min_eq_left hk]
theorem zAx {xs ys : List V} (hl : xs.length + ys.length <= LIM) : ev2 .add U (.tup xs) (.tup ys) = some (.tup (xs ++ ys)) := by
 show (if xs.length + ys.length <= LIM then some (V.tup (xs ++ ys)) else none) = _
 rw [if_pos hl]
theorem zEm {k n : Nat} (hk : k < n) (hl : n <= LIM) : min k n + 1 <= LIM /\ min k n + 1 + (n - (k + 1)) <= LIM := by omega
theorem zNb {a i x : CE} {xs : List V} {k : Nat} {v : V} (hx : evE F q a J U = .ok (.tup xs) U) (hi : evE F q i J U = .ok (.int k) U) (hv : evE F q x J U = .ok v U) (hk : k < xs.length) (hl : xs.length <= LIM) :
  evE F q (.p2 .add (.p2 .add (.slice a none (some i)) (.tup [x])) (.slice a (some (.p2 .add i (.lit (.int 1)))) none)) J U = .ok (.tup (xs.set k v)) U := by
 have h1 : evO F q (some i) J U = .ok (some (k : Int)) U := by rw [zDa, hi]; rfl
 have h2 : evO F q (some (.p2 .add i (.lit (.int 1)))) J U = .ok (some ((k : Int) + 1)) U := by rw [zDa, zD hi rfl (zC9 U k 1)]; rfl
 have e := zD (zD (zGG (lo := none) hx rfl h1 (zKn hk)) (yt (es := [x]) (vs := [v]) (zC hv rfl)) (zAx (U := U) (by rw [List.length_take]; exact (zEm hk hl).1))) (zGG (hi := none) hx h2 rfl (zFj hk)) (zAx (U := U) (by rw [List.length_append, List.length_take, List.length_drop]; exact (zEm hk hl).2))
 rw [e, List.set_eq_take_append_cons_drop, if_pos hk, List.append_assoc]; rfl
end
noncomputable def upL (w : Wd) (u : Or) (k : Nat) (l : Ln) (n : Int) : Or := { lines := u.lines.set k (zX w l n), paid := u.paid, rows := u.rows ++ [(w.s, (zX w l n).charge - l.charge)] }
noncomputable def yN (U : Sto) (h : Nat) (hs : List V) (deed : V) (old : List (Int × V)) : Sto := List.set (U ++ [O.dict old]) h (O.list (hs ++ [V.tup [deed, V.ref U.length]]))
theorem xY {w : Wd} {l : Ln} {n : Int} (h : l.ok) : (zX w l n).ok := by cases w <;> exact ⟨h.1, h.2, h.3, h.4, h.5, h.6⟩
theorem zDS {α β : Type} (f : α -> β) (l : List α) (i : Nat) (x : α) : (l.map f).set i (f x) = (l.set i x).map f := by rw [List.map_set]
theorem wJ {U : Sto} {x y : O} : (U ++ [x]).set U.length y = U ++ [y] := by
 rw [List.set_append_right _ _ (Nat.le_refl _), Nat.sub_self]; rfl
theorem zh {U : Sto} {x : O} : (U ++ [x])[U.length]? = some x := by
 rw [List.getElem?_append_right (Nat.le_refl _), Nat.sub_self]; rfl
section
variable {T : Nat -> Option Fn} {t : Bool} {d : Nat} {q : Bool} {U : Sto} {b e h : Nat} {us : List Or} {hs : List V} {w : Wd} {o k : Nat} {n : Int} {u : Or} {l : Ln}
theorem zND (HT : zN T t) (B : BookIn U b e h (us.map Or.v) hs) (hu : us[o]? = some u) (hl : u.lines[k]? = some l) (hok : u.ok) (hr : u.rows.length < LIM) :
  zA T (d + 3) false 8 [.ref b, .int o, .int k, .str w.s, .int n] U = .ok (.tup [.int o, .int ((zX w l n).charge - l.charge)]) (U.set e (.list ((us.set o (upL w u k l n)).map Or.v))) := by
 have hl1 := hok.ls l (List.mem_of_getElem? hl)
 have hkl : k < (u.lines.map Ln.v).length := by rw [List.length_map]; exact (List.getElem?_eq_some_iff.mp hl).1
 have hlm : (u.lines.map Ln.v).length <= LIM := by rw [List.length_map]; exact Nat.le_of_lt hok.lim
 have ho : o < (us.map Or.v).length := by rw [List.length_map]; exact (List.getElem?_eq_some_iff.mp hu).1
 refine zH HT.b8 rfl ?_
 refine zG (v := u.v) (xO B rfl rfl (xF hu)) ?_
 refine zG (v := l.v) (zD (x := .tup (u.lines.map Ln.v)) rfl rfl (wa U (by rw [List.getElem?_map, hl]; rfl))) ?_
 refine zG (v := (zX w l n).v) (zK rfl (zJC HT hl1 w n)) ?_
 refine zG (v := .int ((zX w l n).charge - l.charge)) (zD (zK rfl (jL HT (xY hl1))) (zK rfl (jL HT hl1)) rfl) ?_
 refine zG (v := .tup ((u.lines.set k (zX w l n)).map Ln.v)) (by rw [<- zDS]; exact zNb (xs := u.lines.map Ln.v) rfl rfl rfl hkl hlm) ?_
 refine zGh B rfl (x := (upL w u k l n).v) ?_ rfl ho (zJ ?_)
 ·refine yt (zC rfl (zC rfl (zC ?_ rfl)))
  refine zD (x := .tup (u.rows.map yO)) (y := .tup [yO (w.s, (zX w l n).charge - l.charge)]) rfl rfl ?_
  rw [zAx (by rw [List.length_map]; exact hr)]
  show _ = some (V.tup ((u.rows ++ [_]).map yO))
  rw [List.map_append]; rfl
 ·rw [zDS]; rfl
theorem zG1 (HT : zN T t) (B : BookIn U b e h (us.map Or.v) hs) (hu : us[o]? = some u) (hl : u.lines[k]? = some l) (hok : u.ok) (hr : u.rows.length < LIM) (hh : hs.length < LIM) :
  zA T (d + 4) false 6 [.ref b, dL w o k n] U = .ok (rv t ((yN U h hs (dL w o k n) [((o : Int), u.v)]).set e (.list ((us.set o (upL w u k l n)).map Or.v))) [.tup [.int o, .int ((zX w l n).charge - l.charge)]]) (rs t ((yN U h hs (dL w o k n) [((o : Int), u.v)]).set e (.list ((us.set o (upL w u k l n)).map Or.v))) [.tup [.int o, .int ((zX w l n).charge - l.charge)]]) := by
 have B1 := B.push (.dict [])
 have B2 := B.push (.dict [((o : Int), u.v)])
 have B3 : BookIn (yN U h hs (dL w o k n) [((o : Int), u.v)]) b e h (us.map Or.v) (hs ++ [.tup [dL w o k n, .ref U.length]]) := B2.setH _
 refine zH HT.b6 rfl ?_
 refine zG (v := .str w.s) rfl (zG (v := .int n) rfl ?_)
 refine zG (v := .ref U.length) (U' := U ++ [.dict [((o : Int), u.v)]]) ?_ ?_
 ·rw [zDZ, show evE (zA T (d + 3) false) false (.p2 .index (.var 1) (.lit (.int 1))) _ (U ++ [.dict []]) = .ok (.int o) (U ++ [.dict []]) from rfl, R.bind_ok, xO B1 rfl rfl (xF hu), R.bind_ok]
  show zC5 U.length (U ++ [.dict []]) o u.v (U ++ [.dict []])[U.length]? = _
  rw [zh]
  show R.ok (V.ref U.length) ((U ++ [O.dict []]).set U.length (O.dict [((o : Int), u.v)])) = _
  rw [wJ]
 refine s_f (zE (zD rfl rfl (wW w))) ?_
 refine yP (U' := yN U h hs (dL w o k n) [((o : Int), u.v)]) (yC (zJa B2 rfl) (by show (xT _).isSome = true; rw [B2.his]; rfl) (yt (zC rfl (zC rfl rfl))) (zm _ B2.his hh)) ?_
 refine s_f (zE (zD rfl rfl (wW w))) (s_f (zE (zD rfl rfl (zGn w))) (s_f (zE (zD rfl rfl (zGo w))) ?_))
 exact zJ (zD0 (zC (zS rfl B3.isInst rfl (zND HT B3 hu hl hok hr)) rfl))
theorem zGA (HT : zN T t) {o k n : Int} {F Fq : Calls} {r : R Fl} (kk : exL F Fq false (fB_2.body.drop 2) [.ref b, dL w o k n] U = r) : exL F Fq false fB_2.body [.ref b, dL w o k n] U = r :=
 s_f (zE (zc rfl rfl (zc (zD rfl rfl (zMC w)) rfl (zD rfl (zD rfl rfl (zOX w)) rfl)))) (s_f (zE (zD rfl rfl (zCu w))) kk)
theorem zOv (HT : zN T t) (B : BookIn U b e h (us.map Or.v) hs) (hok : ∀ u ∈ us, u.ok) {o k n : Int} {c : Cls} (he : zJg us w o k n = some c) : zA T (d + 6) false 2 [.ref b, dL w o k n] U = .exc c U :=
 zb HT.b2 rfl (zGA HT (zBc (zS rfl B.isInst rfl (by rw [zDd HT B hok, he]; rfl))))
theorem zM2 (HT : zN T t) (B : BookIn U b e h (us.map Or.v) hs) (hok : ∀ u ∈ us, u.ok) (he : zJg us w o k n = none) (hu : us[o]? = some u) (hl : u.lines[k]? = some l) (hr : u.rows.length < LIM) (hh : hs.length < LIM) :
  zA T (d + 6) false 2 [.ref b, dL w o k n] U = .ok (rv t ((yN U h hs (dL w o k n) [((o : Int), u.v)]).set e (.list ((us.set o (upL w u k l n)).map Or.v))) [.tup [.int o, .int ((zX w l n).charge - l.charge)]]) (rs t ((yN U h hs (dL w o k n) [((o : Int), u.v)]).set e (.list ((us.set o (upL w u k l n)).map Or.v))) [.tup [.int o, .int ((zX w l n).charge - l.charge)]]) :=
 zH HT.b2 rfl (zGA HT (yP (zS rfl B.isInst rfl ((zDd HT B hok w o k n).trans (by rw [he]; rfl))) (zJ (zS rfl B.isInst rfl (zG1 HT B hu hl (hok u (List.mem_of_getElem? hu)) hr hh)))))
end
end Mine
end

section
namespace Mine
open PySem
noncomputable def xR : Str := { cps := #[97, 98, 99, 100, 101, 102, 103, 104, 105, 106, 107, 108, 109, 110, 111, 112, 113, 114, 115, 116, 117, 118, 119, 120, 121, 122] }
noncomputable def xQ (c : Nat) : Bool := (zz xR).contains c
noncomputable def wq (s : Str) : Bool := decide (1 <= s.length) && decide (s.length <= 12) && (zz s).all xQ
noncomputable def Ln.raw (l : Ln) : V := .tup [.str l.item, .int l.p, .int l.c, .int l.k]
noncomputable def Ln.fresh (l : Ln) : Ln := { l with s := 0, b := 0, a := 0, r := 0 }
theorem Ln.ok.fresh {l : Ln} (h : l.ok) : l.fresh.ok := ⟨h.1, h.2, h.3, h.4, h.5, h.6⟩
structure Ln.good (l : Ln) : Prop where
 ok : l.ok
 item : wq l.item = true
 asc : l.item.cps.all (· < 128) = true
noncomputable def yn (ls : List Ln) : Or := { lines := ls.map Ln.fresh, paid := 0, rows := [] }
section
variable {T : Nat -> Option Fn} {t : Bool} {F Fq : Calls} {d : Nat} {q : Bool} {U : Sto} {b e h : Nat} {es hs : List V} {J : List V}
theorem zHF {a b c : CE} {lo x hi : Int} (ha : evE F q a J U = .ok (.int lo) U) (hb : evE F q b J U = .ok (.int x) U) (hc : evE F q c J U = .ok (.int hi) U) : evE F q (.chain a [.le, .le] [b, c]) J U = .ok (.bool (decide (lo <= x) && decide (x <= hi))) U := by
 rw [zA8, ha, R.bind_ok, zGs, hb]
 show (if decide (lo <= x) = true then evChain F q [P2.le] [c] (.int x) J U else .ok (.bool (decide (lo <= x))) U) = _
 cases decide (lo <= x) with
 | false => rfl
 | true =>
  show evChain F q [P2.le] [c] (.int x) J U = _
  rw [zGr, hc]; rfl
theorem zLT {lo x hi : Int} (h1 : lo <= x) (h2 : x <= hi) : (decide (lo <= x) && decide (x <= hi)) = true := by
 rw [decide_eq_true h1, decide_eq_true h2]; rfl
theorem wk {a b c : CE} {lo x hi : Int} (h1 : lo <= x) (h2 : x <= hi) (ha : evE F q a J U = .ok (.int lo) U) (hb : evE F q b J U = .ok (.int x) U) (hc : evE F q c J U = .ok (.int hi) U) : evE F q (.p1 .not (.chain a [.le, .le] [b, c])) J U = .ok (.bool false) U :=
 ze (zHF ha hb hc) (by rw [zLT h1 h2]; rfl)
theorem zBw {α : Type} (g : α -> Bool) : ∀ l : List α, bools? (l.map fun x => V.bool (g x)) = some (l.map g)
 | [] => rfl
 | x :: l => by
  have := zBw g l
  unfold bools? at this ⊢
  rw [List.map_cons, List.mapM_cons, this]; rfl
theorem zNA (HT : zN T t) {s : Str} (h1 : wq s = true) (h2 : s.cps.all (· < 128) = true) : zA T (d + 1) false 21 [.str s] U = .ok (.bool true) U := by
 unfold wq at h1
 rw [Bool.and_eq_true, Bool.and_eq_true, decide_eq_true_eq, decide_eq_true_eq] at h1
 obtain ⟨⟨ha, hb⟩, hc⟩ := h1
 refine zH HT.b21 rfl (s_f (zE (zc rfl rfl (wk (x := (s.length : Int)) (by omega) (by omega) rfl rfl rfl))) (zJ ?_))
 have e := yi (F := zA T d false) (elt := .p2 .isIn (.var 1) (.lit (.str xR))) (k := .val) (src := [.var 0]) (cond := none) (J := [.str s]) (U := U) (l := zz s) (φ := fun c => .str (mkS [c])) (fun _ => true) (fun c => .bool (xQ c))
  rfl (show zT U .val [.str s] = some (.now (xp s)) by show (if s.cps.all (· < 128) = true then some (Items.now (xp s)) else none) = _; rw [if_pos h2]) (.inl rfl)
  (by show (zz s).length < LIM; rw [show (zz s).length = s.length from rfl]; exact Nat.lt_of_le_of_lt hb (by decide)) (fun _ _ => rfl) (fun c _ _ => rfl)
 rw [xJ] at e
 refine ze e ?_
 show ((bools? ((zz s).map fun c => V.bool (xQ c))).map fun l => V.bool (l.all id)) = _
 rw [zBw, show (some ((zz s).map xQ)).map (fun l => V.bool (l.all id)) = some (V.bool (((zz s).map xQ).all id)) from rfl, List.all_map]
 exact congrArg (fun b => some (V.bool b)) hc
theorem zBq (HT : zN T t) {ls : List Ln} (h1 : 1 <= ls.length) (h2 : ls.length <= 20) (hg : ∀ l ∈ ls, l.good) : zA T (d + 2) false 22 [.lst (ls.map Ln.raw)] U = .ok .none U := by
 have ex : ∃ J, exL (zA T (d + 1) false) (zA T (d + 1) true) false fB_22.body ([V.lst (ls.map Ln.raw)] ++ List.replicate (fB_22.slots - fB_22.params) .undef) U = .ok (.next J) U := by
  obtain ⟨J', U', e, x, rfl, rfl⟩ := wH (F := zA T (d + 1) false) (Fq := zA T (d + 1) true) (i := 1) (k := .val) (src := [.var 0]) (J := [V.lst (ls.map Ln.raw), .undef]) (vs := [.lst (ls.map Ln.raw)]) (U := U) (U1 := U) (it := .now (ls.map Ln.raw)) (xs := ls.map Ln.raw)
   (body := [CS.ite (CE.p1 (P1.not) (CE.call 21 [CE.p2 (P2.index) (CE.var 1) (CE.lit (V.int 0))])) [CS.raise (Cls.NoItem)] [],
    CS.ite (CE.or (CE.p1 (P1.not) (CE.chain (CE.lit (V.int 1)) [P2.le, P2.le] [CE.p2 (P2.index) (CE.var 1) (CE.lit (V.int 1)), CE.lit (V.int 1000000)]))
     (CE.or (CE.p1 (P1.not) (CE.chain (CE.lit (V.int 0)) [P2.le, P2.le] [CE.p2 (P2.index) (CE.var 1) (CE.lit (V.int 2)), CE.lit (V.int 1000000000)]))
      (CE.p1 (P1.not) (CE.chain (CE.lit (V.int 1)) [P2.le, P2.le] [CE.p2 (P2.index) (CE.var 1) (CE.lit (V.int 3)), CE.lit (V.int 1000)])))) [CS.raise (Cls.NoNumber)] []])
   (fun _ J U' => ∃ x, J = [V.lst (ls.map Ln.raw), x] /\ U' = U) rfl rfl (fun _ _ _ _ => .inl rfl) ⟨_, rfl, rfl⟩ fun j x J U' hx hI => by
    obtain ⟨y, rfl, rfl⟩ := hI
    rw [List.getElem?_map] at hx
    obtain ⟨l, hl, rfl⟩ := Option.map_eq_some_iff.mp hx
    have g := hg l (List.mem_of_getElem? hl)
    refine ⟨[V.lst (ls.map Ln.raw), l.raw], U', ?_, _, rfl, rfl⟩
    exact s_f (zE (ze (zK rfl (zNA HT g.item g.asc)) rfl)) (s_f (zE (zc (wk g.ok.p1 g.ok.p2 rfl rfl rfl) rfl (zc (wk g.ok.c1 g.ok.c2 rfl rfl rfl) rfl (wk g.ok.k1 g.ok.k2 rfl rfl rfl)))) rfl)
  refine ⟨[V.lst (ls.map Ln.raw), x], s_f (zE (wk (x := (ls.length : Int)) (by omega) (by omega) rfl (ze rfl (by rw [zi, List.length_map])) rfl)) ?_⟩
  rw [List.nil_append, yS]
  exact congrArg (fun r => R.bind r (zEn (zA T (d + 1) false) (zA T (d + 1) true) false [])) e
 obtain ⟨J, ex⟩ := ex
 exact wA HT.b22 rfl ex
theorem zLL (HT : zN T t) {l : Ln} : zA T (d + 1) q 23 [l.raw] U = .ok l.fresh.v U := zH HT.b23 rfl (zJ rfl)
noncomputable def dO (ls : List Ln) : V := .tup [.str kF, .lst (ls.map Ln.raw)]
theorem zLK (HT : zN T t) (B : BookIn U b e h es hs) {ls : List Ln} (h1 : 1 <= ls.length) (h2 : ls.length <= 20) (hg : ∀ l ∈ ls, l.good) (he : es.length < 40) (hh : hs.length < LIM) :
  zA T (d + 3) false 3 [.ref b, .lst (ls.map Ln.raw)] U = .ok (rv t (yN (U.set e (.list (es ++ [(yn ls).v]))) h hs (dO ls) []) []) (rs t (yN (U.set e (.list (es ++ [(yn ls).v]))) h hs (dO ls) []) []) := by
 have B1 := B.setE (es ++ [(yn ls).v])
 refine zH HT.b3 rfl ?_
 refine yP (zK rfl (zBq HT h1 h2 hg)) ?_
 refine s_f (zE (t := false) (zD (zFA B rfl) rfl (by rw [zNf, decide_eq_false (by omega)]))) ?_
 have ec := yi (F := zA T (d + 2) false) (elt := .call 23 [.var 2]) (k := .val) (src := [.var 1]) (cond := none) (J := [.ref b, .lst (ls.map Ln.raw)]) (U := U) (l := ls) (φ := Ln.raw) (fun _ => true) (fun l => l.fresh.v) rfl rfl (.inl rfl) (Nat.lt_of_le_of_lt h2 (by decide)) (fun _ _ => rfl) (fun l _ _ => zK rfl (zLL HT))
 rw [xJ, show ls.map (fun l => l.fresh.v) = (ls.map Ln.fresh).map Ln.v by rw [List.map_map]; rfl] at ec
 refine yP (U' := U.set e (.list (es ++ [(yn ls).v]))) (yC (zGE B rfl) (by show (xT _).isSome = true; rw [B.ent]; rfl) (yt (zC (ze (z := .tup ((ls.map Ln.fresh).map Ln.v)) ec rfl) rfl)) (zm _ B.ent (Nat.lt_trans he (by decide)))) ?_
 refine yP (yC (zJa B1 rfl) (by show (xT _).isSome = true; rw [B1.his]; rfl) (yt (zC (v := dO ls) rfl (zC rfl rfl))) (zm _ (B1.push _).his hh)) (zJ (zD0 rfl))
theorem zM5 (HT : zN T t) (B : BookIn U b e h es hs) {ls : List Ln} (h1 : 1 <= ls.length) (h2 : ls.length <= 20) (hg : ∀ l ∈ ls, l.good) (he : es.length < 40) (hh : hs.length < LIM) :
  zA T (d + 4) false 2 [.ref b, dO ls] U = .ok (rv t (yN (U.set e (.list (es ++ [(yn ls).v]))) h hs (dO ls) []) []) (rs t (yN (U.set e (.list (es ++ [(yn ls).v]))) h hs (dO ls) []) []) :=
 zH HT.b2 rfl (s_f rfl (s_t rfl (zJ (zS rfl B.isInst rfl (zLK HT B h1 h2 hg he hh)))))
theorem zCo {c v : CE} {k n : Nat} {x : V} {as : List (Nat × V)} {U1 : Sto} (hv : evE F q v J U = .ok x U1) (ho : evE F q c J U1 = .ok (.ref n) U1) (hn : U1[n]? = some (.inst as)) (hk : k < 2) {rest : List CS} {r : R Fl} (kk : exL F Fq q rest J (U1.set n (.inst ((k, x) :: as))) = r) :
  exL F Fq q (.setAttr c k v :: rest) J U = r := by
 rw [yS, zCv, hv, R.bind_ok, ho, R.bind_ok, show kO U1 (.ref n) k x = kG U1 n k x U1[n]? from rfl, hn, show kG U1 n k x (some (.inst as)) = if k < 2 then .ok () (U1.set n (.inst ((k, x) :: as))) else .stuck from rfl, if_pos hk]
 exact kk
noncomputable def kQ (U : Sto) : Sto := U ++ [.inst [(1, .ref (U.length + 2)), (0, .ref (U.length + 1))], .list [], .list []]
theorem zC1 {l r : Sto} {x : O} : (l ++ x :: r)[l.length]? = some x := by
 rw [List.getElem?_append_right (Nat.le_refl _), Nat.sub_self]; rfl
theorem zDP {l r : Sto} {x y : O} : (l ++ x :: r).set l.length y = l ++ y :: r := by
 rw [List.set_append_right _ _ (Nat.le_refl _), Nat.sub_self]; rfl
theorem zOw (HT : zN T t) : evE (zA T (d + 1) q) q .new J U = .ok (.ref U.length) (kQ U) := by
 have hc : zA T (d + 1) q 0 [.ref U.length] (U ++ [.inst []]) = .ok .none (kQ U) := by
  refine wA (J := [.ref U.length]) HT.b0 rfl (zCo (U1 := U ++ [.inst [], .list []]) (x := .ref (U.length + 1)) ?_ rfl zC1 (by decide) ?_)
  ·show R.ok (V.ref (U ++ [O.inst []]).length) ((U ++ [O.inst []]) ++ [O.list []]) = _
   rw [List.length_append, List.append_assoc]; rfl
  ·rw [zDP]
   refine zCo (U1 := U ++ [.inst [(0, .ref (U.length + 1))], .list [], .list []]) (x := .ref (U.length + 2)) ?_ rfl zC1 (by decide) ?_
   ·show R.ok (V.ref (U ++ [O.inst [(0, .ref (U.length + 1))], O.list []]).length) ((U ++ [O.inst [(0, .ref (U.length + 1))], O.list []]) ++ [O.list []]) = _
    rw [List.length_append, List.append_assoc]; rfl
   ·rw [zDP]; rfl
 rw [zPq, hc]; rfl
theorem zFV : BookIn (kQ U) U.length (U.length + 1) (U.length + 2) [] [] :=
 ⟨zC1, by unfold kQ; rw [List.getElem?_append_right (by omega), Nat.add_sub_cancel_left]; rfl, by unfold kQ; rw [List.getElem?_append_right (by omega), Nat.add_sub_cancel_left]; rfl, by omega⟩
end
end Mine
end

section
namespace Mine
open PySem
noncomputable def dP (o n : Int) : V := .tup [.str wM, .int o, .int n]
noncomputable def dR (o n : Int) : V := .tup [.str jy, .int o, .int n]
noncomputable def dM (o p n : Int) : V := .tup [.str yW, .int o, .int p, .int n]
noncomputable def zBz (n : Int) : Option Or -> Option Cls
 | none => some .NoOrder
 | some _ => if n < 1 then some .NoNumber else none
noncomputable def zBP (us : List Or) (o n : Int) : Option Cls := zBz n (atI us o)
noncomputable def zD4 (n : Int) : Option Or -> Option Cls
 | none => some .NoOrder
 | some u => wF n (0 - u.owed)
noncomputable def zBQ (us : List Or) (o n : Int) : Option Cls := zD4 n (atI us o)
noncomputable def zD3 (u : Or) (o p n : Int) : Option Or -> Option Cls
 | none => some .NoOrder
 | some _ => if o == p then some .SameOrder else wF n (0 - u.owed)
noncomputable def zD2 (us : List Or) (o p n : Int) : Option Or -> Option Cls
 | none => some .NoOrder
 | some u => zD3 u o p n (atI us p)
noncomputable def zBO (us : List Or) (o p n : Int) : Option Cls := zD2 us o p n (atI us o)
noncomputable def xC (u : Or) (w : Str) (c : Int) : Or := { lines := u.lines, paid := u.paid + c, rows := u.rows ++ [(w, 0 - c)] }
section
variable {T : Nat -> Option Fn} {t : Bool} {F Fq : Calls} {d : Nat} {q : Bool} {U : Sto} {b e h : Nat} {us : List Or} {hs : List V} {J : List V} {o p : Nat} {n : Int} {u u' : Or}
theorem zAy {o : Int} (ho : atI us o = none) : (decide (0 <= o) && decide (o < ((us.map Or.v).length : Int))) = false := by rw [List.length_map]; exact wD ho
theorem jF (hu : us[o]? = some u) : o < (us.map Or.v).length := by rw [List.length_map]; exact (List.getElem?_eq_some_iff.mp hu).1
theorem zAz (HT : zN T t) (B : BookIn U b e h (us.map Or.v) hs) (hu : us[o]? = some u) (w : Str) (c : Int) (hr : u.rows.length < LIM) :
  zA T (d + 1) q 7 [.ref b, .int o, .str w, .int c] U = .ok (.tup [.int o, .int (0 - c)]) (U.set e (.list ((us.set o (xC u w c)).map Or.v))) := by
 refine zH HT.b7 rfl (zG (v := u.v) (xO B rfl rfl (xF hu)) (zGh B rfl (x := (xC u w c).v) ?_ rfl (jF hu) (zJ ?_)))
 ·refine yt (zC rfl (zC rfl (zC (zD (x := .tup (u.rows.map yO)) (y := .tup [yO (w, 0 - c)]) rfl rfl ?_) rfl)))
  rw [zAx (by rw [List.length_map]; exact hr)]
  show _ = some (V.tup ((u.rows ++ [_]).map yO))
  rw [List.map_append]; rfl
 ·rw [zDS]; rfl
theorem zBk {deed : V} {m n : Int} {w : Str} (hv : zI [.ref b, deed] 1 = some deed) (hw : ev2 .index U deed (.int 0) = some (.str w)) (hl : ev2 .index U deed (.int (-1)) = some (.int n)) (hp : ev2 .ne U (.str w) (.str wM) = some (.bool true))
  (hi : isInst U (.ref b) = true) (hm : F 5 [.ref b, deed] U = .ok (.int m) U) : exL F Fq false (fB_4.body.drop 3) [.ref b, deed] U = (match wF n m with | none => .ok (.next [.ref b, deed]) U | some c => .exc c U) := by
 have v1 : evE F false (.var 1) [.ref b, deed] U = .ok deed U := by rw [zp, hv]; rfl
 have l1 : evE F false (.p2 .index (.var 1) (.p1 .neg (.lit (.int 1)))) [.ref b, deed] U = .ok (.int n) U := zD v1 (ze rfl rfl) hl
 have g : evE F false (.and (.p2 .ne (.p2 .index (.var 1) (.lit (.int 0))) (.lit (.str wM))) (.p2 .gt (.p2 .index (.var 1) (.p1 .neg (.lit (.int 1)))) (.callm 5 (.var 0) [.var 1]))) [.ref b, deed] U = .ok (.bool (decide (n > m))) U :=
  zq (zD (zD v1 rfl hw) rfl hp) rfl (zD l1 (zS rfl hi (zC v1 rfl) hm) rfl)
 unfold wF
 by_cases h1 : n < 1
 ·rw [if_pos h1]
  exact s_t (zE (zD l1 rfl (by rw [xG, decide_eq_true h1]))) rfl
 ·rw [if_neg h1]
  have h1' : evC F false (some (.p2 .lt (.p2 .index (.var 1) (.p1 .neg (.lit (.int 1)))) (.lit (.int 1)))) [.ref b, deed] U = .ok false U := zE (zD l1 rfl (by rw [xG, decide_eq_false h1]))
  by_cases h2 : n > m
  ·rw [if_pos h2]; exact s_f h1' (s_t (zE (by rw [decide_eq_true h2] at g; exact g)) rfl)
  ·rw [if_neg h2]; exact s_f h1' (s_f (zE (by rw [decide_eq_false h2] at g; exact g)) rfl)
theorem zBx (HT : zN T t) {deed : V} {x : Option Cls} (h : exL (zA T d false) (zA T d true) false fB_4.body [.ref b, deed] U = (match x with | none => .ok (.next [.ref b, deed]) U | some c => .exc c U)) : zA T (d + 1) false 4 [.ref b, deed] U = yd U x := by
 cases x with
 | none => exact wA HT.b4 rfl h
 | some c => exact zb HT.b4 rfl h
theorem zDf (HT : zN T t) (B : BookIn U b e h (us.map Or.v) hs) (o n : Int) : zA T (d + 2) false 4 [.ref b, dP o n] U = yd U (zBP us o n) := by
 show _ = yd U (zBz n (atI us o))
 cases ho : atI us o with
 | none => exact zb HT.b4 rfl (xd HT B rfl rfl (zAy ho))
 | some u =>
  obtain ⟨o, rfl, hu⟩ := zf ho
  show _ = yd U (if n < 1 then some .NoNumber else none)
  by_cases h1 : n < 1
  ·rw [if_pos h1]
   exact zb HT.b4 rfl (xo HT B rfl rfl (jF hu) (s_f rfl (s_f rfl (s_t (zE (t := true) (zD rfl rfl (show ev2 .lt U (.int n) (.int 1) = _ by rw [xG, decide_eq_true h1]))) rfl))))
  ·rw [if_neg h1]
   exact wA HT.b4 rfl (xo HT B rfl rfl (jF hu) (s_f rfl (s_f rfl (s_f (zE (t := false) (zD rfl rfl (show ev2 .lt U (.int n) (.int 1) = _ by rw [xG, decide_eq_false h1]))) (s_f rfl rfl)))))
theorem zLN (HT : zN T t) (B : BookIn U b e h (us.map Or.v) hs) (hok : ∀ u ∈ us, u.ok) (hu : us[o]? = some u) : zA T (d + 4) false 5 [.ref b, dR o n] U = .ok (.int (0 - u.owed)) U :=
 have k := hok u (List.mem_of_getElem? hu)
 zH HT.b5 rfl (s_f rfl (zJ (zD rfl (zS rfl B.isInst rfl (zJD HT B (xF hu) k.lim k.ls)) rfl)))
theorem zLM (HT : zN T t) (B : BookIn U b e h (us.map Or.v) hs) (hok : ∀ u ∈ us, u.ok) (hu : us[o]? = some u) {p : Int} : zA T (d + 4) false 5 [.ref b, dM o p n] U = .ok (.int (0 - u.owed)) U :=
 have k := hok u (List.mem_of_getElem? hu)
 zH HT.b5 rfl (s_f rfl (zJ (zD rfl (zS rfl B.isInst rfl (zJD HT B (xF hu) k.lim k.ls)) rfl)))
theorem zDg (HT : zN T t) (B : BookIn U b e h (us.map Or.v) hs) (hok : ∀ u ∈ us, u.ok) (o n : Int) : zA T (d + 5) false 4 [.ref b, dR o n] U = yd U (zBQ us o n) := by
 show _ = yd U (zD4 n (atI us o))
 cases ho : atI us o with
 | none => exact zb HT.b4 rfl (xd HT B rfl rfl (zAy ho))
 | some u =>
  obtain ⟨o, rfl, hu⟩ := zf ho
  exact zBx HT (xo HT B rfl rfl (jF hu) (s_f rfl (s_f rfl (zBk rfl rfl rfl rfl B.isInst (zLN HT B hok hu)))))
theorem zDe (HT : zN T t) (B : BookIn U b e h (us.map Or.v) hs) (hok : ∀ u ∈ us, u.ok) (o p n : Int) : zA T (d + 5) false 4 [.ref b, dM o p n] U = yd U (zBO us o p n) := by
 show _ = yd U (zD2 us o p n (atI us o))
 cases ho : atI us o with
 | none => exact zb HT.b4 rfl (xd HT B rfl rfl (zAy ho))
 | some u =>
  obtain ⟨o, rfl, hu⟩ := zf ho
  show _ = yd U (zD3 u o p n (atI us p))
  cases hp : atI us p with
  | none => exact zb HT.b4 rfl (xo HT B rfl rfl (jF hu) (s_t rfl (xd HT B rfl rfl (zAy hp))))
  | some u' =>
   obtain ⟨p, rfl, hu'⟩ := zf hp
   show _ = yd U (if (o : Int) == p then some .SameOrder else wF n (0 - u.owed))
   have pre : ∀ {r : R Fl}, exL (zA T (d + 4) false) (zA T (d + 4) true) false (.ite (.p2 .eq (.p2 .index (.var 1) (.lit (.int 1))) (.p2 .index (.var 1) (.lit (.int 2)))) [.raise .SameOrder] [] :: fB_4.body.drop 2) [.ref b, dM o p n] U = r -> exL (zA T (d + 4) false) (zA T (d + 4) true) false fB_4.body [.ref b, dM o p n] U = r := fun k =>
    xo HT B rfl rfl (jF hu) (s_t rfl (xo HT B rfl rfl (jF hu') k))
   cases hop : ((o : Int) == p) with
   | true => exact zb HT.b4 rfl (pre (s_t (zE (zD rfl rfl (show ev2 .eq U (.int o) (.int p) = _ by rw [xP, hop]))) rfl))
   | false => exact zBx HT (pre (s_f (zE (zD rfl rfl (show ev2 .eq U (.int o) (.int p) = _ by rw [xP, hop]))) (s_f rfl (zBk rfl rfl rfl rfl B.isInst (zLM HT B hok hu)))))
end
end Mine
end

section
namespace Mine
open PySem
section
variable {T : Nat -> Option Fn} {t : Bool} {F Fq : Calls} {d : Nat} {q : Bool} {U : Sto} {b e h : Nat} {us : List Or} {hs : List V} {J : List V} {o p : Nat} {n : Int} {u u' : Or}
theorem zJb (B : BookIn U b e h (us.map Or.v) hs) (h0 : zI J 0 = some (.ref b)) {c : CE} (hc : ∀ U, evE F q c J U = .ok (.int o) U) (hu : us[o]? = some u) :
  evE F q (.dict1 c (.p2 .index (.attr (.var 0) 0) c)) J U = .ok (.ref U.length) (U ++ [.dict [((o : Int), u.v)]]) := by
 rw [zDZ, hc, R.bind_ok, xO (B.push (.dict [])) h0 (hc _) (xF hu), R.bind_ok]
 show zC5 U.length (U ++ [.dict []]) o u.v (U ++ [.dict []])[U.length]? = _
 rw [zh]
 show R.ok (V.ref U.length) ((U ++ [O.dict []]).set U.length (O.dict [((o : Int), u.v)])) = _
 rw [wJ]
theorem zFg {U0 : Sto} {old : List (Int × V)} {deed : V} {rest : List CS} {r : R Fl} (B : BookIn (U0 ++ [.dict old]) b e h (us.map Or.v) hs) (h0 : zI J 0 = some (.ref b)) (h1 : zI J 1 = some deed) (h4 : zI J 4 = some (.ref U0.length)) (hh : hs.length < LIM)
  (k : exL F Fq q rest J (yN U0 h hs deed old) = r) : exL F Fq q (.exp (.append (.attr (.var 0) 1) (.tup [.var 1, .var 4])) :: rest) J (U0 ++ [.dict old]) = r :=
 yP (yC (zJa B h0) (by show (xT _).isSome = true; rw [B.his]; rfl) (yt (zC (by rw [zp, h1]; rfl) (zC (by rw [zp, h4]; rfl) rfl))) (zm _ B.his hh)) k
theorem zG3 (HT : zN T t) (B : BookIn U b e h (us.map Or.v) hs) (hu : us[o]? = some u) (hr : u.rows.length < LIM) (hh : hs.length < LIM) :
  zA T (d + 2) false 6 [.ref b, dP o n] U = .ok (rv t ((yN U h hs (dP o n) [((o : Int), u.v)]).set e (.list ((us.set o (xC u wM n)).map Or.v))) [.tup [.int o, .int (0 - n)]]) (rs t ((yN U h hs (dP o n) [((o : Int), u.v)]).set e (.list ((us.set o (xC u wM n)).map Or.v))) [.tup [.int o, .int (0 - n)]]) := by
 have B2 := B.push (.dict [((o : Int), u.v)])
 have B3 : BookIn (yN U h hs (dP o n) [((o : Int), u.v)]) b e h (us.map Or.v) (hs ++ [.tup [dP o n, .ref U.length]]) := B2.setH _
 exact zH HT.b6 rfl (zG (v := .str wM) rfl (zG (v := .int n) rfl (zG (zJb B rfl (fun _ => rfl) hu) (s_f rfl (zFg B2 rfl rfl rfl hh (s_f rfl (s_t rfl (zJ (zD0 (zC (zS rfl B3.isInst rfl (zAz HT B3 hu wM n hr)) rfl))))))))))
theorem zG4 (HT : zN T t) (B : BookIn U b e h (us.map Or.v) hs) (hu : us[o]? = some u) (hr : u.rows.length < LIM) (hh : hs.length < LIM) :
  zA T (d + 2) false 6 [.ref b, dR o n] U = .ok (rv t ((yN U h hs (dR o n) [((o : Int), u.v)]).set e (.list ((us.set o (xC u jy (0 - n))).map Or.v))) [.tup [.int o, .int (0 - (0 - n))]]) (rs t ((yN U h hs (dR o n) [((o : Int), u.v)]).set e (.list ((us.set o (xC u jy (0 - n))).map Or.v))) [.tup [.int o, .int (0 - (0 - n))]]) := by
 have B2 := B.push (.dict [((o : Int), u.v)])
 have B3 : BookIn (yN U h hs (dR o n) [((o : Int), u.v)]) b e h (us.map Or.v) (hs ++ [.tup [dR o n, .ref U.length]]) := B2.setH _
 exact zH HT.b6 rfl (zG (v := .str jy) rfl (zG (v := .int n) rfl (zG (zJb B rfl (fun _ => rfl) hu) (s_f rfl (zFg B2 rfl rfl rfl hh (s_f rfl (s_f rfl (s_t rfl (zJ (zD0 (zC (zS rfl B3.isInst rfl (zAz HT B3 hu jy (0 - n) hr)) rfl)))))))))))
noncomputable def kj (us : List Or) (o p : Nat) (u u' : Or) (n : Int) : List Or := (us.set o (xC u yW (0 - n))).set p (xC u' yW n)
theorem zI0 {U : Sto} {i : Nat} {x y : O} : (U.set i x).set i y = U.set i y := List.set_set ..
theorem zG2 (HT : zN T t) (B : BookIn U b e h (us.map Or.v) hs) (hu : us[o]? = some u) (hu' : us[p]? = some u') (hop : o ≠ p) (hr : u.rows.length < LIM) (hr' : u'.rows.length < LIM) (hh : hs.length < LIM) :
  zA T (d + 2) false 6 [.ref b, dM o p n] U = .ok (rv t ((yN U h hs (dM o p n) [((o : Int), u.v), ((p : Int), u'.v)]).set e (.list ((kj us o p u u' n).map Or.v))) [.tup [.int o, .int (0 - (0 - n))], .tup [.int p, .int (0 - n)]]) (rs t ((yN U h hs (dM o p n) [((o : Int), u.v), ((p : Int), u'.v)]).set e (.list ((kj us o p u u' n).map Or.v))) [.tup [.int o, .int (0 - (0 - n))], .tup [.int p, .int (0 - n)]]) := by
 have B1 := B.push (.dict [((o : Int), u.v)])
 have B2 := B.push (.dict [((o : Int), u.v), ((p : Int), u'.v)])
 have B3 : BookIn (yN U h hs (dM o p n) [((o : Int), u.v), ((p : Int), u'.v)]) b e h (us.map Or.v) (hs ++ [.tup [dM o p n, .ref U.length]]) := B2.setH _
 have B4 := B3.setE ((us.set o (xC u yW (0 - n))).map Or.v)
 have hp2 : (us.set o (xC u yW (0 - n)))[p]? = some u' := by rw [List.getElem?_set_ne hop]; exact hu'
 refine zH HT.b6 rfl (zG (v := .str yW) rfl (zG (v := .int n) rfl (zG (zJb B rfl (fun _ => rfl) hu) (s_t rfl ?_))))
 refine yQ (U' := U ++ [.dict [((o : Int), u.v), ((p : Int), u'.v)]]) (xO B1 rfl rfl (xF hu')) rfl rfl ?_ ?_
 ·show zAg (U ++ [.dict [((o : Int), u.v)]]) U.length p u'.v (U ++ [.dict [((o : Int), u.v)]])[U.length]? = _
  rw [zh]
  show (if 1 < LIM then R.ok () ((U ++ [O.dict [((o : Int), u.v)]]).set U.length (.dict (xy [((o : Int), u.v)] p u'.v))) else .stuck) = _
  rw [if_pos (by decide), wJ]
  have hne : ((o : Int) == (p : Int)) = false := by rw [beq_eq_false_iff_ne]; omega
  unfold xy
  rw [show ([((o : Int), u.v)].any fun q => q.1 == (p : Int)) = false by show (((o : Int) == (p : Int)) || false) = false; rw [hne]; rfl]
  rfl
 ·refine zFg B2 rfl rfl rfl hh (s_t rfl (zJ (zD0 (zC (zS rfl B3.isInst rfl (zAz HT B3 hu yW (0 - n) hr)) (zC (zS rfl B4.isInst rfl ?_) rfl)))))
  rw [zAz HT B4 hp2 yW n hr', zI0]; rfl
theorem zGC {F Fq : Calls} {o n : Int} {r : R Fl} (kk : exL F Fq false (fB_2.body.drop 2) [.ref b, dP o n] U = r) : exL F Fq false fB_2.body [.ref b, dP o n] U = r := s_f rfl (s_f rfl kk)
theorem zGD {F Fq : Calls} {o n : Int} {r : R Fl} (kk : exL F Fq false (fB_2.body.drop 2) [.ref b, dR o n] U = r) : exL F Fq false fB_2.body [.ref b, dR o n] U = r := s_f rfl (s_f rfl kk)
theorem zGB {F Fq : Calls} {o p n : Int} {r : R Fl} (kk : exL F Fq false (fB_2.body.drop 2) [.ref b, dM o p n] U = r) : exL F Fq false fB_2.body [.ref b, dM o p n] U = r := s_f rfl (s_f rfl kk)
theorem zM7 (HT : zN T t) (B : BookIn U b e h (us.map Or.v) hs) {o n : Int} {c : Cls} (he : zBP us o n = some c) : zA T (d + 3) false 2 [.ref b, dP o n] U = .exc c U :=
 zb HT.b2 rfl (zGC (zBc (zS rfl B.isInst rfl (by rw [zDf HT B, he]; rfl))))
theorem zM9 (HT : zN T t) (B : BookIn U b e h (us.map Or.v) hs) (hok : ∀ u ∈ us, u.ok) {o n : Int} {c : Cls} (he : zBQ us o n = some c) : zA T (d + 6) false 2 [.ref b, dR o n] U = .exc c U :=
 zb HT.b2 rfl (zGD (zBc (zS rfl B.isInst rfl (by rw [zDg HT B hok, he]; rfl))))
theorem zM4 (HT : zN T t) (B : BookIn U b e h (us.map Or.v) hs) (hok : ∀ u ∈ us, u.ok) {o p n : Int} {c : Cls} (he : zBO us o p n = some c) : zA T (d + 6) false 2 [.ref b, dM o p n] U = .exc c U :=
 zb HT.b2 rfl (zGB (zBc (zS rfl B.isInst rfl (by rw [zDe HT B hok, he]; rfl))))
theorem zM6 (HT : zN T t) (B : BookIn U b e h (us.map Or.v) hs) (he : zBP us o n = none) (hu : us[o]? = some u) (hr : u.rows.length < LIM) (hh : hs.length < LIM) :
  zA T (d + 3) false 2 [.ref b, dP o n] U = .ok (rv t ((yN U h hs (dP o n) [((o : Int), u.v)]).set e (.list ((us.set o (xC u wM n)).map Or.v))) [.tup [.int o, .int (0 - n)]]) (rs t ((yN U h hs (dP o n) [((o : Int), u.v)]).set e (.list ((us.set o (xC u wM n)).map Or.v))) [.tup [.int o, .int (0 - n)]]) :=
 zH HT.b2 rfl (zGC (yP (zS rfl B.isInst rfl ((zDf HT B o n).trans (by rw [he]; rfl))) (zJ (zS rfl B.isInst rfl (zG3 HT B hu hr hh)))))
theorem zM8 (HT : zN T t) (B : BookIn U b e h (us.map Or.v) hs) (hok : ∀ u ∈ us, u.ok) (he : zBQ us o n = none) (hu : us[o]? = some u) (hr : u.rows.length < LIM) (hh : hs.length < LIM) :
  zA T (d + 6) false 2 [.ref b, dR o n] U = .ok (rv t ((yN U h hs (dR o n) [((o : Int), u.v)]).set e (.list ((us.set o (xC u jy (0 - n))).map Or.v))) [.tup [.int o, .int (0 - (0 - n))]]) (rs t ((yN U h hs (dR o n) [((o : Int), u.v)]).set e (.list ((us.set o (xC u jy (0 - n))).map Or.v))) [.tup [.int o, .int (0 - (0 - n))]]) :=
 zH HT.b2 rfl (zGD (yP (zS rfl B.isInst rfl ((zDg HT B hok o n).trans (by rw [he]; rfl))) (zJ (zS rfl B.isInst rfl (zG4 HT B hu hr hh)))))
theorem zM3 (HT : zN T t) (B : BookIn U b e h (us.map Or.v) hs) (hok : ∀ u ∈ us, u.ok) (he : zBO us o p n = none) (hu : us[o]? = some u) (hu' : us[p]? = some u') (hop : o ≠ p) (hr : u.rows.length < LIM) (hr' : u'.rows.length < LIM) (hh : hs.length < LIM) :
  zA T (d + 6) false 2 [.ref b, dM o p n] U = .ok (rv t ((yN U h hs (dM o p n) [((o : Int), u.v), ((p : Int), u'.v)]).set e (.list ((kj us o p u u' n).map Or.v))) [.tup [.int o, .int (0 - (0 - n))], .tup [.int p, .int (0 - n)]]) (rs t ((yN U h hs (dM o p n) [((o : Int), u.v), ((p : Int), u'.v)]).set e (.list ((kj us o p u u' n).map Or.v))) [.tup [.int o, .int (0 - (0 - n))], .tup [.int p, .int (0 - n)]]) :=
 zH HT.b2 rfl (zGB (yP (zS rfl B.isInst rfl ((zDe HT B hok o p n).trans (by rw [he]; rfl))) (zJ (zS rfl B.isInst rfl (zG2 HT B hu hu' hop hr hr' hh)))))
end
end Mine
end

section
namespace Mine
open PySem
noncomputable def zFJ : Fn := { params := 1, slots := 1, body := [CS.ret (CE.and (CE.p1 (P1.isInst Kd.int) (CE.var 0)) (CE.p1 P1.not (CE.p1 (P1.isInst Kd.bool) (CE.var 0))))] }
noncomputable def zFH : Fn := { params := 3, slots := 4, body := [CS.asg 3 (CE.p2 P2.mod (CE.p2 P2.mod (CE.p2 P2.mul (CE.var 0) (CE.lit (V.int 48271))) (CE.var 1)) (CE.lit (V.int 11))),CS.ite (CE.p2 P2.eq (CE.var 3) (CE.lit (V.int 0))) [CS.ret (CE.p2 P2.sub (CE.p1 P1.neg (CE.lit (V.int 1))) (CE.p2 P2.mod (CE.var 0) (CE.lit (V.int 3))))] [],CS.ite (CE.p2 P2.eq (CE.var 3) (CE.lit (V.int 1))) [CS.ret (CE.p2 P2.add (CE.var 2) (CE.p2 P2.mod (CE.var 0) (CE.lit (V.int 2))))] [],CS.ret (CE.p2 P2.mod (CE.p2 P2.mod (CE.p2 P2.mul (CE.var 0) (CE.lit (V.int 48271))) (CE.p2 P2.add (CE.var 1) (CE.lit (V.int 2)))) (CE.p2 P2.max (CE.lit (V.int 1)) (CE.var 2)))] }
noncomputable def zDC : Fn := { params := 2, slots := 3, body := [CS.asg 2 (CE.p2 P2.mod (CE.p2 P2.mod (CE.p2 P2.mul (CE.var 0) (CE.lit (V.int 48271))) (CE.lit (V.int 10061))) (CE.lit (V.int 8))),CS.ite (CE.p2 P2.eq (CE.var 2) (CE.lit (V.int 0))) [CS.ret (CE.p1 P1.neg (CE.p2 P2.mod (CE.var 0) (CE.lit (V.int 3))))] [],CS.ite (CE.p2 P2.eq (CE.var 2) (CE.lit (V.int 1))) [CS.ret (CE.p2 P2.add (CE.var 1) (CE.lit (V.int 1)))] [],CS.ite (CE.or (CE.p2 P2.eq (CE.var 2) (CE.lit (V.int 2))) (CE.p2 P2.eq (CE.var 2) (CE.lit (V.int 3)))) [CS.ret (CE.var 1)] [],CS.ite (CE.p2 P2.eq (CE.var 2) (CE.lit (V.int 4))) [CS.ret (CE.p2 P2.add (CE.lit (V.int 1)) (CE.p2 P2.mod (CE.var 0) (CE.p2 P2.pow (CE.lit (V.int 10)) (CE.lit (V.int 13)))))] [],CS.ret (CE.p2 P2.add (CE.lit (V.int 1)) (CE.p2 P2.mod (CE.var 0) (CE.p2 P2.max (CE.lit (V.int 1)) (CE.var 1))))] }
noncomputable def zEE : Fn := { params := 1, slots := 2, body := [CS.asg 1 (CE.lit (V.str { cps := #[97,98,99,100,101,102,103,104,105,106,107,108,109,110,111,112,113,114,115,116,117,118,119,120,121,122] })),CS.ret (CE.sm P2.join (CE.lit (V.str { cps := #[] })) (CE.comp (CE.p2 P2.index (CE.var 1) (CE.p2 P2.mod (CE.p2 P2.add (CE.p2 P2.add (CE.p2 P2.fdiv (CE.var 0) (CE.lit (V.int 26))) (CE.p2 P2.mul (CE.lit (V.int 7)) (CE.var 2))) (CE.var 0)) (CE.lit (V.int 26)))) SK.range1 [CE.p2 P2.add (CE.lit (V.int 1)) (CE.p2 P2.mod (CE.p2 P2.mod (CE.p2 P2.mul (CE.var 0) (CE.lit (V.int 48271))) (CE.lit (V.int 10079))) (CE.lit (V.int 12)))] none))] }
noncomputable def zDB : Fn := { params := 1, slots := 1, body := [CS.ite (CE.p2 P2.eq (CE.p2 P2.index (CE.var 0) (CE.lit (V.int 0))) (CE.lit (V.str { cps := #[111,114,100,101,114] }))) [CS.ret (CE.tup [CE.lit (V.str { cps := #[111,114,100,101,114] }),CE.p1 P1.toList (CE.p2 P2.index (CE.var 0) (CE.lit (V.int 1)))])] [],CS.ret (CE.var 0)] }
noncomputable def zFI : Fn := { params := 2, slots := 2, body := [CS.try TK.ret (CE.callm 2 (CE.var 0) [CE.var 1]) [{ cls := Cls.NoDeed, as := none, tk := TK.ret, e := CE.lit (V.str { cps := #[78,111,68,101,101,100] }) }, { cls := Cls.NoLines, as := none, tk := TK.ret, e := CE.lit (V.str { cps := #[78,111,76,105,110,101,115] }) }, { cls := Cls.NoItem, as := none, tk := TK.ret, e := CE.lit (V.str { cps := #[78,111,73,116,101,109] }) }, { cls := Cls.NoNumber, as := none, tk := TK.ret, e := CE.lit (V.str { cps := #[78,111,78,117,109,98,101,114] }) }, { cls := Cls.FullBook, as := none, tk := TK.ret, e := CE.lit (V.str { cps := #[70,117,108,108,66,111,111,107] }) }, { cls := Cls.NoOrder, as := none, tk := TK.ret, e := CE.lit (V.str { cps := #[78,111,79,114,100,101,114] }) }, { cls := Cls.SameOrder, as := none, tk := TK.ret, e := CE.lit (V.str { cps := #[83,97,109,101,79,114,100,101,114] }) }, { cls := Cls.NoLine, as := none, tk := TK.ret, e := CE.lit (V.str { cps := #[78,111,76,105,110,101] }) }, { cls := Cls.TooMuch, as := none, tk := TK.ret, e := CE.lit (V.str { cps := #[84,111,111,77,117,99,104] }) }]] }
noncomputable def zAD (it : Nat) : Fn := { params := 1, slots := 6, body := [CS.asg 1 (CE.trk (CE.list [])),CS.asg 2 (CE.p2 P2.add (CE.lit (V.int 1)) (CE.p2 P2.mod (CE.p2 P2.mod (CE.p2 P2.mul (CE.var 0) (CE.lit (V.int 48271))) (CE.lit (V.int 10067))) (CE.lit (V.int 3)))),CS.ite (CE.p2 P2.eq (CE.p2 P2.mod (CE.p2 P2.mod (CE.p2 P2.mul (CE.var 0) (CE.lit (V.int 48271))) (CE.lit (V.int 10111))) (CE.lit (V.int 9))) (CE.lit (V.int 1))) [CS.asg 2 (CE.p2 P2.add (CE.lit (V.int 1)) (CE.p2 P2.mod (CE.var 0) (CE.lit (V.int 20))))] [],CS.for 3 SK.range1 [CE.var 2] [CS.asg 4 (CE.p2 P2.add (CE.p2 P2.fdiv (CE.var 0) (CE.p2 P2.add (CE.var 3) (CE.lit (V.int 1)))) (CE.p2 P2.mul (CE.lit (V.int 5)) (CE.var 3))),CS.asg 5 (CE.call it [CE.var 4]),CS.ite (CE.p2 P2.eq (CE.p2 P2.mod (CE.p2 P2.mod (CE.p2 P2.mul (CE.var 0) (CE.lit (V.int 48271))) (CE.lit (V.int 10141))) (CE.lit (V.int 3))) (CE.lit (V.int 0))) [CS.asg 5 (CE.call it [CE.p2 P2.fdiv (CE.var 0) (CE.lit (V.int 7))])] [],CS.ite (CE.p2 P2.eq (CE.p2 P2.mod (CE.p2 P2.mod (CE.p2 P2.mul (CE.var 0) (CE.lit (V.int 48271))) (CE.lit (V.int 10069))) (CE.lit (V.int 5))) (CE.lit (V.int 1))) [CS.exp (CE.append (CE.var 1) (CE.tup [CE.var 5,CE.p2 P2.add (CE.lit (V.int 1)) (CE.p2 P2.mod (CE.var 4) (CE.lit (V.int 1000000))),CE.p2 P2.mod (CE.p2 P2.mul (CE.var 4) (CE.lit (V.int 48271))) (CE.lit (V.int 1000000001)),CE.p2 P2.add (CE.lit (V.int 1)) (CE.p2 P2.mod (CE.var 4) (CE.lit (V.int 1000)))]))] [CS.exp (CE.append (CE.var 1) (CE.tup [CE.var 5,CE.p2 P2.add (CE.lit (V.int 1)) (CE.p2 P2.mod (CE.var 4) (CE.lit (V.int 9))),CE.p2 P2.mod (CE.p2 P2.mod (CE.p2 P2.mul (CE.var 4) (CE.lit (V.int 48271))) (CE.lit (V.int 10091))) (CE.lit (V.int 200)),CE.p2 P2.add (CE.lit (V.int 1)) (CE.p2 P2.mod (CE.p2 P2.fdiv (CE.var 4) (CE.lit (V.int 9))) (CE.lit (V.int 4)))]))]],CS.ret (CE.var 1)] }
end Mine
end

section
namespace Mine
open PySem
theorem xu (a : Int) {m : Int} (h : 0 < m) : 0 <= a.fmod m /\ a.fmod m < m := ⟨Int.fmod_nonneg_of_pos a h, Int.fmod_lt_of_pos a h⟩
theorem jO (a : Int) {m : Nat} (h : 0 < m) : ∃ k : Nat, a.fmod (m : Int) = k /\ k < m := by
 obtain ⟨h1, h2⟩ := xu a (m := (m : Int)) (Int.natCast_pos.mpr h)
 exact ⟨(a.fmod (m : Int)).toNat, (Int.toNat_of_nonneg h1).symm, (Int.toNat_lt h1).mpr h2⟩
theorem zBb (a : Int) {m : Nat} (hm : 0 < m) : ∃ n : Nat, 1 + a.fmod (m : Int) = (n : Int) /\ 1 <= n /\ n <= m := by
 obtain ⟨z, hz, hlt⟩ := jO a hm
 exact ⟨1 + z, by rw [hz]; rfl, Nat.le_add_right 1 z, Nat.add_comm 1 z ▸ hlt⟩
section
variable {F Fq : Calls} {q : Bool} {J : List V} {U : Sto}
noncomputable def GR (F Fq : Calls) (q : Bool) (ss : List CS) (J : List V) (U : Sto) : Prop := ∃ n : Int, exL F Fq q ss J U = .ok (.ret (.int n)) U
noncomputable def GI (F : Calls) (q : Bool) (e : CE) (J : List V) (U : Sto) : Prop := ∃ n : Int, evE F q e J U = .ok (.int n) U
theorem zJx {e : CE} {rest : List CS} (h : GI F q e J U) : GR F Fq q (.ret e :: rest) J U := by
 obtain ⟨n, h⟩ := h; exact ⟨n, zJ h⟩
theorem zB2 {c e : CE} {rest : List CS} {t : Bool} (hc : evC F q (some c) J U = .ok t U) (h1 : t = true -> GI F q e J U) (h2 : t = false -> GR F Fq q rest J U) : GR F Fq q (.ite c [.ret e] [] :: rest) J U := by
 cases t with
 | true => obtain ⟨n, h⟩ := h1 rfl; exact ⟨n, s_t hc (zJ h)⟩
 | false => obtain ⟨n, h⟩ := h2 rfl; exact ⟨n, s_f hc h⟩
theorem zJw {e : CE} {i : Nat} {v : V} {rest : List CS} (h : evE F q e J U = .ok v U) (k : GR F Fq q rest (J.set i v) U) : GR F Fq q (.asg i e :: rest) J U := by
 obtain ⟨n, k⟩ := k; exact ⟨n, zG h k⟩
theorem zGO {T : Nat -> Option Fn} {d k : Nat} {fn : Fn} {args : List V} (h : T k = some fn) (hl : args.length = fn.params) (hx : GR (zA T d q) (zA T d true) q fn.body (args ++ List.replicate (fn.slots - fn.params) .undef) U) : ∃ n : Int, zA T (d + 1) q k args U = .ok (.int n) U := by
 obtain ⟨n, hx⟩ := hx; exact ⟨n, zH h hl hx⟩
theorem zQD {a b : CE} {s t : Bool} (ha : evE F q a J U = .ok (.bool s) U) (hb : evE F q b J U = .ok (.bool t) U) : evE F q (.or a b) J U = .ok (.bool (s || t)) U := by
 cases s with
 | true => exact zAA ha rfl
 | false => exact zc ha rfl hb
theorem zMQ {a b : CE} {s t : Bool} (ha : evE F q a J U = .ok (.bool s) U) (hb : evE F q b J U = .ok (.bool t) U) : evE F q (.and a b) J U = .ok (.bool (s && t)) U := by
 cases s with
 | true => exact zq ha rfl hb
 | false => exact ye ha rfl
theorem xD {a b m : CE} {c p z : Int} (ha : evE F q a J U = .ok (.int c) U) (hb : evE F q b J U = .ok (.int p) U) (hm : evE F q m J U = .ok (.int z) U) (hp : (p == 0) = false) (hz : (z == 0) = false) : evE F q (.p2 .mod (.p2 .mod (.p2 .mul a (.lit (.int 48271))) b) m) J U = .ok (.int (((c * 48271).fmod p).fmod z)) U :=
 zD (zD (zD ha rfl (yI U c 48271 (.inr rfl))) hb (xq U _ p hp)) hm (xq U _ z hz)
theorem zJ9 (m : Int) : ((if m > 1 then m else 1) == 0) = false := by rw [beq_eq_false_iff_ne]; split <;> omega
end
section
variable {T : Nat -> Option Fn} {d k : Nat} {q : Bool} {U : Sto}
theorem zGN (h : T k = some zFJ) (i : Int) : zA T (d + 1) q k [.int i] U = .ok (.bool true) U := zH h rfl (zJ rfl)
theorem zDD (h : T k = some zFH) (c p sz : Int) (hp : (p == 0) = false) (hp2 : (p + 2 == 0) = false) : ∃ n : Int, zA T (d + 1) false k [.int c, .int p, .int sz] U = .ok (.int n) U :=
 zGO h rfl (zJw (xD rfl rfl rfl hp rfl) (zB2 (zE rfl) (fun _ => ⟨_, zD rfl (zD rfl rfl rfl) rfl⟩) fun _ => zB2 (zE rfl) (fun _ => ⟨_, zD rfl (zD rfl rfl rfl) rfl⟩) fun _ =>
  zJx ⟨_, zD (zD (zD rfl rfl (yI U c 48271 (.inr rfl))) rfl (xq U _ (p + 2) hp2)) (zD rfl rfl (zGH U 1 sz)) (xq U _ _ (zJ9 sz))⟩))
theorem zEF (h : T k = some zDC) (c m : Int) : ∃ n : Int, zA T (d + 1) false k [.int c, .int m] U = .ok (.int n) U :=
 zGO h rfl (zJw (xD rfl rfl rfl rfl rfl) (zB2 (zE rfl) (fun _ => ⟨_, ze (zD rfl rfl rfl) rfl⟩) fun _ => zB2 (zE rfl) (fun _ => ⟨_, zD rfl rfl rfl⟩) fun _ =>
  zB2 (zE (zQD rfl rfl)) (fun _ => ⟨_, rfl⟩) fun _ => zB2 (zE rfl) (fun _ => ⟨_, zD rfl (zD rfl (zD rfl rfl (zLf U 13 (by decide))) (xq U _ _ (by decide))) rfl⟩) fun _ =>
  zJx ⟨_, zD rfl (zD rfl (zD rfl rfl (zGH U 1 m)) (xq U _ _ (zJ9 m))) rfl⟩))
theorem zEN : ∀ cs : List Nat, Str.join (mkS []) (cs.map fun c => mkS [c]) = mkS cs
 | [] => rfl
 | [c] => rfl
 | c :: c' :: r => by
  show mkS [c] ++ mkS [] ++ Str.join (mkS []) ((c' :: r).map fun c => mkS [c]) = _
  rw [zEN (c' :: r)]
  show (⟨(mkS [c]).cps ++ (mkS []).cps ++ (mkS (c' :: r)).cps⟩ : Str) = _
  simp [mkS]
theorem zEl : ∀ cs : List Nat, strs? (cs.map fun c => V.str (mkS [c])) = some (cs.map fun c => mkS [c])
 | [] => rfl
 | c :: r => by
  have := zEl r
  unfold strs? at this ⊢
  rw [List.map_cons, List.mapM_cons, this]; rfl
theorem zGT : ∀ cs : List Nat, ((cs.map fun c => mkS [c]).map fun x : Str => x.length).sum = cs.length
 | [] => rfl
 | c :: r => by
  rw [List.map_cons, List.map_cons, List.sum_cons, zGT r, List.length_cons]
  exact Nat.add_comm 1 _
theorem zLp {cs : List Nat} (h : cs.length <= 100000) : ev2 .join U (.str (mkS [])) (.lst (cs.map fun c => .str (mkS [c]))) = some (.str (mkS cs)) := by
 show ((strs? (cs.map fun c => V.str (mkS [c]))).bind fun l => if (l.map (·.length)).sum + l.length * (mkS []).length <= 100000 then some (V.str (Txt.join (mkS []) l)) else none) = _
 rw [zEl]
 show (if ((cs.map fun c => mkS [c]).map fun x : Str => x.length).sum + (cs.map fun c => mkS [c]).length * 0 <= 100000 then some (V.str (Txt.join (mkS []) (cs.map fun c => mkS [c]))) else none) = _
 rw [zGT, Nat.mul_zero, Nat.add_zero, if_pos h]
 show some (V.str (Builtin.Str.glued (mkS []) (cs.map fun c => mkS [c]))) = _
 rw [StrLaws.glued_eq_join, zEN]
noncomputable def ym (j : Nat) : Nat := (zz xR).getD j 97
theorem zEQ {j : Nat} (h : j < 26) : xQ (ym j) = true /\ ym j < 128 := by
 have : ∀ j : Fin 26, xQ (ym j) = true /\ ym j < 128 := by decide
 exact this ⟨j, h⟩
theorem zHT {j : Nat} (h : j < 26) : ev2 .index U (.str xR) (.int (j : Int)) = some (.str (mkS [ym j])) := by
 show ((zd 26 (j : Int)).bind fun k => (zz xR)[k]?.map fun c => V.str (mkS [c])) = _
 rw [xx h]
 show ((zz xR)[j]?.map fun c => V.str (mkS [c])) = _
 have : j < (zz xR).length := h
 rw [List.getElem?_eq_getElem this]
 unfold ym
 rw [List.getD_eq_getElem?_getD, List.getElem?_eq_getElem this]; rfl
theorem zHO {cs : List Nat} (h1 : 1 <= cs.length) (h2 : cs.length <= 12) (h : ∀ c ∈ cs, xQ c = true /\ c < 128) : wq (mkS cs) = true /\ (mkS cs).cps.all (· < 128) = true := by
 have hl : (mkS cs).length = cs.length := by simp [mkS, Str.length]
 have hc : zz (mkS cs) = cs := by simp [zz, mkS]
 refine ⟨?_, ?_⟩
 ·unfold wq
  rw [hl, hc, decide_eq_true h1, decide_eq_true h2, List.all_eq_true.mpr fun c hm => (h c hm).1]; rfl
 ·show cs.toArray.all _ = true
  rw [List.all_toArray, List.all_eq_true]
  intro c hm
  exact decide_eq_true (h c hm).2
noncomputable def jE (c : Int) (k : Nat) : Nat := ((c.fdiv 26 + 7 * (k : Int) + c).fmod 26).toNat
theorem zB5 (c : Int) (k : Nat) : jE c k < 26 := by
 obtain ⟨h1, h2⟩ := xu (c.fdiv 26 + 7 * (k : Int) + c) (m := 26) (by decide)
 exact (Int.toNat_lt h1).mpr h2
theorem zJu (h : T k = some zEE) (c : Int) : ∃ s : Str, wq s = true /\ s.cps.all (· < 128) = true /\ zA T (d + 1) false k [.int c] U = .ok (.str s) U := by
 obtain ⟨n, hn, h1, h2⟩ := zBb ((c * 48271).fmod 10079) (m := 12) (by decide)
 have hn : 1 + ((c * 48271).fmod 10079).fmod 12 = (n : Int) := hn
 have hcs : ∀ x ∈ (List.range n).map fun j => ym (jE c j), xQ x = true /\ x < 128 := fun x hx => by
  obtain ⟨j, _, rfl⟩ := List.mem_map.mp hx
  exact zEQ (zB5 c j)
 have hlen : ((List.range n).map fun j => ym (jE c j)).length = n := by rw [List.length_map, List.length_range]
 obtain ⟨g1, g2⟩ := zHO (hlen.symm ▸ h1) (hlen.symm ▸ h2) hcs
 refine ⟨_, g1, g2, zH h rfl (zG (v := .str xR) rfl (zJ ?_))⟩
 have e := yi (F := zA T d false) (elt := .p2 .index (.var 1) (.p2 .mod (.p2 .add (.p2 .add (.p2 .fdiv (.var 0) (.lit (.int 26))) (.p2 .mul (.lit (.int 7)) (.var 2))) (.var 0)) (.lit (.int 26)))) (k := .range1)
  (src := [.p2 .add (.lit (.int 1)) (.p2 .mod (.p2 .mod (.p2 .mul (.var 0) (.lit (.int 48271))) (.lit (.int 10079))) (.lit (.int 12)))]) (cond := none) (J := [.int c, .str xR]) (vs := [.int n]) (U := U) (U1 := U) (it := .now (za 0 n)) (l := List.range n) (φ := fun j : Nat => .int (0 + (j : Int))) (fun _ => true) (fun j => .str (mkS [ym (jE c j)]))
  (zC (by rw [zD rfl (xD (c := c) (p := 10079) (z := 12) rfl rfl rfl rfl rfl) rfl, hn]) rfl) (zv U (by show n <= LIM; exact Nat.le_trans h2 (by decide)))
  (.inl (by unfold za; rw [Int.sub_zero, Int.toNat_natCast])) (by rw [List.length_range]; exact Nat.lt_of_le_of_lt h2 (by decide)) (fun _ _ => rfl) fun j hj _ => by
   rw [Int.zero_add]
   refine zD rfl (zD (zD (zD (zD rfl rfl (wG U c 26 rfl)) (zD rfl rfl (yI U 7 j (.inl rfl))) rfl) rfl rfl) rfl (xq U _ 26 rfl)) ?_
   have hx : (c.fdiv 26 + 7 * (j : Int) + c).fmod 26 = (jE c j : Int) := by
    exact (Int.toNat_of_nonneg (xu _ (by decide)).1).symm
   rw [hx]
   exact zHT (zB5 c j)
 rw [xJ, show (List.range n).map (fun j => V.str (mkS [ym (jE c j)])) = ((List.range n).map fun j => ym (jE c j)).map fun x => V.str (mkS [x]) by rw [List.map_map]; rfl] at e
 rw [zPr]
 show R.bind (evE (zA T d false) false (.comp _ _ _ _) [.int c, .str xR] U) (fun b U => R.lift U (ev2 .join U (.str (mkS [])) b)) = _
 rw [e]
 show R.lift U _ = _
 rw [zLp (hlen.symm ▸ Nat.le_trans h2 (by decide))]; rfl
end
end Mine
end

section
namespace Mine
open PySem
theorem zKj {lo hi : Int} {j : Nat} {x : V} (h : (za lo hi)[j]? = some x) : x = .int (lo + (j : Int)) /\ j < (hi - lo).toNat := by
 unfold za at h
 rw [List.getElem?_map] at h
 obtain ⟨k, hk, rfl⟩ := Option.map_eq_some_iff.mp h
 obtain ⟨h1, h2⟩ := List.getElem?_eq_some_iff.mp hk
 rw [List.getElem_range] at h2
 rw [List.length_range] at h1
 exact ⟨by rw [h2], h1⟩
theorem wj {n : Nat} : (za 0 (n : Int)).length = n := by
 unfold za; rw [List.length_map, List.length_range, Int.sub_zero, Int.toNat_natCast]
theorem xa {n j : Nat} {x : V} (h : (za 0 (n : Int))[j]? = some x) : x = .int (j : Int) /\ j < n := by
 obtain ⟨h1, h2⟩ := zKj h
 rw [Int.zero_add] at h1
 rw [Int.sub_zero, Int.toNat_natCast] at h2
 exact ⟨h1, h2⟩
inductive Drawn (U : Sto) (c many : Int) (j : Nat) : List V -> Sto -> Prop
 | mk (ls : List Ln) (x3 x4 x5 : V) (hl : ls.length = j) (hg : ∀ l ∈ ls, l.good) : Drawn U c many j [.int c, .ref U.length, .int many, x3, x4, x5] (U ++ [.list (ls.map Ln.raw)])
noncomputable def wB (it : Nat) : List CS := match (zAD it).body with
 | [_, _, _, .for _ _ _ b, _] => b
 | _ => []
section
variable {T : Nat -> Option Fn} {d k it : Nat} {q : Bool} {U : Sto}
theorem zMm {F Fq : Calls} {J : List V} {ls : List Ln} {l : Ln} {x : CE} {rest : List CS} {r : R Fl} (h1 : zI J 1 = some (.ref U.length)) (hl : ls.length < LIM) (hx : evE F q x J (U ++ [.list (ls.map Ln.raw)]) = .ok l.raw (U ++ [.list (ls.map Ln.raw)])) (kk : exL F Fq q rest J (U ++ [.list ((ls ++ [l]).map Ln.raw)]) = r) :
  exL F Fq q (.exp (.append (.var 1) x) :: rest) J (U ++ [.list (ls.map Ln.raw)]) = r :=
 yP (yC (by rw [zp, h1]; rfl) (by show (xT _).isSome = true; rw [zh]; rfl) hx (zm _ zh (by rw [List.length_map]; exact hl))) (by rw [wJ, show ls.map Ln.raw ++ [l.raw] = (ls ++ [l]).map Ln.raw by rw [List.map_append]; rfl]; exact kk)
theorem zBN {s : Str} {x y z : Int} (ha : wq s = true) (hb : s.cps.all (· < 128) = true) (x1 : 0 <= x) (x2 : x < 1000000) (y1 : 0 <= y) (y2 : y < 1000000001) (z1 : 0 <= z) (z2 : z < 1000) : ({ item := s, p := 1 + x, c := y, k := 1 + z, s := 0, b := 0, a := 0, r := 0 } : Ln).good :=
 ⟨⟨Int.add_le_add_left x1 1, Int.add_comm x 1 ▸ x2, y1, Int.le_of_lt_add_one y2, Int.add_le_add_left z1 1, Int.add_comm z 1 ▸ z2⟩, ha, hb⟩
theorem zLb (j : Nat) (hj : j < 20) : ((j : Int) + 1 == 0 || decide (1073741824 <= ((j : Int) + 1).natAbs)) = false := by
 rw [Bool.or_eq_false_iff, beq_eq_false_iff_ne, decide_eq_false_iff_not]
 exact ⟨fun h => (nomatch (h : ((j + 1 : Nat) : Int) = ((0 : Nat) : Int))), fun h => absurd (Nat.le_trans h hj) (by decide)⟩
theorem zFR (hi : T it = some zEE) {c many : Int} {j : Nat} {J : List V} {U' : Sto} (hj : j < 20) (I : Drawn U c many j J U') :
  ∃ J' U'', exL (zA T (d + 1) false) (zA T (d + 1) true) false (wB it) (J.set 3 (.int j)) U' = .ok (.next J') U'' /\ Drawn U c many (j + 1) J' U'' := by
 cases I with
 | mk ls x3 x4 x5 hl hg =>
 have hdiv := zLb j hj
 generalize hU : U ++ [O.list (ls.map Ln.raw)] = U1
 generalize hm : c.fdiv ((j : Int) + 1) + 5 * (j : Int) = m
 obtain ⟨s1, a1, b1, e1⟩ := zJu (d := d) (U := U1) hi m
 obtain ⟨s2, a2, b2, e2⟩ := zJu (d := d) (U := U1) hi (c.fdiv 7)
 have pre : ∃ s : Str, wq s = true /\ s.cps.all (· < 128) = true /\ ∀ {r : R Fl}, exL (zA T (d + 1) false) (zA T (d + 1) true) false ((wB it).drop 3) [.int c, .ref U.length, .int many, .int j, .int m, .str s] U1 = r ->
   exL (zA T (d + 1) false) (zA T (d + 1) true) false (wB it) [.int c, .ref U.length, .int many, .int j, x4, x5] U1 = r := by
  have p2 : ∀ {r : R Fl}, exL (zA T (d + 1) false) (zA T (d + 1) true) false ((wB it).drop 2) [.int c, .ref U.length, .int many, .int j, .int m, .str s1] U1 = r ->
    exL (zA T (d + 1) false) (zA T (d + 1) true) false (wB it) [.int c, .ref U.length, .int many, .int j, x4, x5] U1 = r := fun kk =>
   zG (v := .int m) (by rw [<- hm]; exact zD (zD rfl rfl (wG U1 c _ hdiv)) (zD rfl rfl (yI U1 5 j (.inl rfl))) rfl) (zG (zK rfl e1) kk)
  cases ht : (((c * 48271).fmod 10141).fmod 3 == 0) with
  | true => exact ⟨s2, a2, b2, fun kk => p2 (s_t (zE (t := true) (zD (xD (c := c) rfl rfl rfl rfl rfl) rfl (by rw [xP, ht]))) (zG (zK (zC (zD rfl rfl (wG U1 c 7 rfl)) rfl) e2) kk))⟩
  | false => exact ⟨s1, a1, b1, fun kk => p2 (s_f (zE (t := false) (zD (xD (c := c) rfl rfl rfl rfl rfl) rfl (by rw [xP, ht]))) kk)⟩
 obtain ⟨s, ha, hb, pre⟩ := pre
 have hlim : ls.length < LIM := Nat.lt_trans (hl.symm ▸ hj) (by decide)
 have add : ∀ l : Ln, l.good -> (∀ x ∈ ls ++ [l], x.good) := fun l hl x hx => by
  rcases List.mem_append.mp hx with hx | hx
  ·exact hg x hx
  ·rw [List.mem_singleton.mp hx]; exact hl
 have hlen : ∀ l : Ln, (ls ++ [l]).length = j + 1 := fun l => by rw [List.length_append, hl]; rfl
 have m48 : ev2 .mul U1 (.int m) (.int 48271) = some (.int (m * 48271)) := yI U1 m 48271 (.inr rfl)
 cases ht : (((c * 48271).fmod 10069).fmod 5 == 1) with
 | true =>
  have hg' : ({ item := s, p := 1 + m.fmod 1000000, c := (m * 48271).fmod 1000000001, k := 1 + m.fmod 1000, s := 0, b := 0, a := 0, r := 0 } : Ln).good :=
   have p := xu m (m := 1000000) (by decide)
   have q := xu (m * 48271) (m := 1000000001) (by decide)
   have r := xu m (m := 1000) (by decide)
   zBN ha hb p.1 p.2 q.1 q.2 r.1 r.2
  refine ⟨_, _, pre (s_t (zE (t := true) (zD (xD (c := c) rfl rfl rfl rfl rfl) rfl (by rw [xP, ht]))) (by rw [<- hU]; rw [<- hU] at m48; exact zMm (l := { item := s, p := 1 + m.fmod 1000000, c := (m * 48271).fmod 1000000001, k := 1 + m.fmod 1000, s := 0, b := 0, a := 0, r := 0 }) rfl hlim (yt (zC rfl (zC (zD rfl (zD rfl rfl rfl) rfl) (zC (zD (zD rfl rfl m48) rfl rfl) (zC (zD rfl (zD rfl rfl rfl) rfl) rfl))))) rfl)), ?_⟩
  exact .mk _ _ _ _ (hlen _) (add _ hg')
 | false =>
  have hg' : ({ item := s, p := 1 + m.fmod 9, c := ((m * 48271).fmod 10091).fmod 200, k := 1 + (m.fdiv 9).fmod 4, s := 0, b := 0, a := 0, r := 0 } : Ln).good :=
   have p := xu m (m := 9) (by decide)
   have q := xu ((m * 48271).fmod 10091) (m := 200) (by decide)
   have r := xu (m.fdiv 9) (m := 4) (by decide)
   zBN ha hb p.1 (Int.lt_trans p.2 (by decide)) q.1 (Int.lt_trans q.2 (by decide)) r.1 (Int.lt_trans r.2 (by decide))
  refine ⟨_, _, pre (s_f (zE (t := false) (zD (xD (c := c) rfl rfl rfl rfl rfl) rfl (by rw [xP, ht]))) (by rw [<- hU]; rw [<- hU] at m48; exact zMm (l := { item := s, p := 1 + m.fmod 9, c := ((m * 48271).fmod 10091).fmod 200, k := 1 + (m.fdiv 9).fmod 4, s := 0, b := 0, a := 0, r := 0 }) rfl hlim (yt (zC rfl (zC (zD rfl (zD rfl rfl rfl) rfl) (zC (zD (zD (zD rfl rfl m48) rfl rfl) rfl rfl) (zC (zD rfl (zD (zD rfl rfl rfl) rfl rfl) rfl) rfl))))) rfl)), ?_⟩
  exact .mk _ _ _ _ (hlen _) (add _ hg')
theorem zLl (h : T k = some (zAD it)) (hi : T it = some zEE) (c : Int) : ∃ ls : List Ln, 1 <= ls.length /\ ls.length <= 20 /\ (∀ l ∈ ls, l.good) /\ zA T (d + 2) false k [.int c] U = .ok (.ref U.length) (U ++ [.list (ls.map Ln.raw)]) := by
 have pre : ∃ n : Nat, 1 <= n /\ n <= 20 /\ ∀ {r : R Fl}, exL (zA T (d + 1) false) (zA T (d + 1) true) false ((zAD it).body.drop 3) [.int c, .ref U.length, .int n, .undef, .undef, .undef] (U ++ [.list (([] : List Ln).map Ln.raw)]) = r ->
   exL (zA T (d + 1) false) (zA T (d + 1) true) false (zAD it).body [.int c, .undef, .undef, .undef, .undef, .undef] U = r := by
  cases ht : (((c * 48271).fmod 10111).fmod 9 == 1) with
  | true =>
   obtain ⟨n, hn, h1, h2⟩ := zBb c (m := 20) (by decide)
   have hn : 1 + c.fmod 20 = (n : Int) := hn
   refine ⟨n, h1, h2, fun kk => zG rfl (zG (zD rfl (xD (c := c) rfl rfl rfl rfl rfl) rfl) (s_t (zE (t := true) (zD (xD (c := c) rfl rfl rfl rfl rfl) rfl (by rw [xP, ht]))) (zG (v := .int n) (by rw [<- hn]; exact zD rfl (zD rfl rfl rfl) rfl) kk)))⟩
  | false =>
   obtain ⟨n, hn, h1, h2⟩ := zBb ((c * 48271).fmod 10067) (m := 3) (by decide)
   have hn : 1 + ((c * 48271).fmod 10067).fmod 3 = (n : Int) := hn
   refine ⟨n, h1, Nat.le_trans h2 (by decide), fun kk => zG rfl (zG (v := .int n) (by rw [<- hn]; exact zD rfl (xD (c := c) rfl rfl rfl rfl rfl) rfl) (s_f (zE (t := false) (zD (xD (c := c) rfl rfl rfl rfl rfl) rfl (by rw [xP, ht]))) kk))⟩
 obtain ⟨n, h1, h2, pre⟩ := pre
 obtain ⟨J', U', e, I⟩ := wH (F := zA T (d + 1) false) (Fq := zA T (d + 1) true) (i := 3) (k := .range1) (src := [.var 2]) (body := wB it) (J := [.int c, .ref U.length, .int n, .undef, .undef, .undef]) (vs := [.int n]) (U := U ++ [.list (([] : List Ln).map Ln.raw)]) (U1 := U ++ [.list (([] : List Ln).map Ln.raw)]) (it := .now (za 0 n)) (xs := za 0 n)
  (Drawn U c n) rfl (zv _ (by show n <= LIM; exact Nat.le_trans h2 (by decide))) (fun _ _ _ _ => .inl rfl) (.mk [] _ _ _ rfl (fun l hl => nomatch hl)) fun j x J U' hx I => by
   obtain ⟨rfl, hj⟩ := xa hx
   exact zFR hi (Nat.lt_of_lt_of_le hj h2) I
 rw [wj] at I
 cases I with
 | mk ls x3 x4 x5 hl hg =>
 refine ⟨ls, hl ▸ h1, hl ▸ h2, hg, zH h rfl (pre ?_)⟩
 show exL _ _ false (_ :: _) _ _ = _
 rw [yS]
 exact (congrArg (fun r => R.bind r (zEn _ _ false _)) e).trans rfl
end
end Mine
end

section
namespace Mine
open PySem
inductive Deed where
 | ord (ls : List Ln)
 | pay (o n : Int)
 | ref (o n : Int)
 | mov (o p n : Int)
 | lin (w : Wd) (o k n : Int)
noncomputable def Deed.v : Deed -> V
 | .ord ls => dO ls
 | .pay o n => dP o n
 | .ref o n => dR o n
 | .mov o p n => dM o p n
 | .lin w o k n => dL w o k n
noncomputable def Deed.err (us : List Or) : Deed -> Option Cls
 | .ord _ => none
 | .pay o n => zBP us o n
 | .ref o n => zBQ us o n
 | .mov o p n => zBO us o p n
 | .lin w o k n => zJg us w o k n
noncomputable def Deed.fit (us : List Or) : Deed -> Prop
 | .ord ls => 1 <= ls.length /\ ls.length <= 20 /\ (∀ l ∈ ls, l.good) /\ us.length < 40
 | _ => True
inductive Step (us : List Or) : Deed -> List Or -> List (Int × Int) -> Prop
 | ord (ls : List Ln) : Step us (.ord ls) (us ++ [yn ls]) []
 | pay (o : Nat) (n : Int) (u : Or) (hu : us[o]? = some u) (h1 : 1 <= n) : Step us (.pay o n) (us.set o (xC u wM n)) [((o : Int), -n)]
 | ref (o : Nat) (n : Int) (u : Or) (hu : us[o]? = some u) (h1 : 1 <= n) (h2 : n <= 0 - u.owed) : Step us (.ref o n) (us.set o (xC u jy (0 - n))) [((o : Int), n)]
 | mov (o p : Nat) (n : Int) (u u' : Or) (hu : us[o]? = some u) (hu' : us[p]? = some u') (hop : o ≠ p) (h1 : 1 <= n) (h2 : n <= 0 - u.owed) : Step us (.mov o p n) (kj us o p u u' n) [((o : Int), n), ((p : Int), -n)]
 | lin (w : Wd) (o k : Nat) (n : Int) (u : Or) (l : Ln) (hu : us[o]? = some u) (hl : u.lines[k]? = some l) (h1 : 1 <= n) (h2 : n <= xZ w l) : Step us (.lin w o k n) (us.set o (upL w u k l n)) [((o : Int), (zX w l n).charge - l.charge)]
noncomputable def chL (l : List (Int × Int)) : List V := l.map fun p => .tup [.int p.1, .int p.2]
noncomputable def chV (l : List (Int × Int)) : V := .lst (l.map fun p => .tup [.int p.1, .int p.2])
inductive Did (U : Sto) (b e h : Nat) (us : List Or) (hl : Nat) (D : Deed) (r : R V) : Prop
 | no (c : Cls) (er : r = .exc c U) (he : D.err us = some c)
 | yes (U' : Sto) (us' : List Or) (out : List (Int × Int)) (hs : List V) (er : r = .ok (chV out) U') (he : D.err us = none) (S : Step us D us' out) (B : BookIn U' b e h (us'.map Or.v) hs) (hl : hs.length = hl + 1) (hk : ∀ (m : Nat) (o : O), m ≠ e -> m ≠ h -> U[m]? = some o -> U'[m]? = some o)
inductive zPy (t : Bool) (U : Sto) (b e h : Nat) (us : List Or) (hl : Nat) (D : Deed) (r : R V) : Prop
 | no (c : Cls) (er : r = .exc c U) (he : D.err us = some c)
 | yes (U' : Sto) (us' : List Or) (out : List (Int × Int)) (hs : List V) (er : r = .ok (rv t U' (chL out)) (rs t U' (chL out))) (he : D.err us = none) (S : Step us D us' out) (B : BookIn U' b e h (us'.map Or.v) hs) (hl : hs.length = hl + 1) (hk : ∀ (m : Nat) (o : O), m ≠ e -> m ≠ h -> U[m]? = some o -> U'[m]? = some o)
theorem zAB {n m : Int} (h : wF n m = none) : 1 <= n /\ n <= m := by
 unfold wF at h
 split at h
 ·cases h
 ·split at h
  ·cases h
  ·omega
section
variable {T : Nat -> Option Fn} {t : Bool} {d : Nat} {U : Sto} {b e h : Nat} {us : List Or} {hs : List V}
theorem zA4 {deed : V} {old : List (Int × V)} {x : O} (m : Nat) (o : O) (me : m ≠ e) (mh : m ≠ h) (hm : U[m]? = some o) : ((yN U h hs deed old).set e x)[m]? = some o :=
 zP (zP (yz hm) mh.symm) me.symm
theorem zPJ (HT : zN T t) (B : BookIn U b e h (us.map Or.v) hs) (hok : ∀ u ∈ us, u.ok) (hr : ∀ u ∈ us, u.rows.length < LIM) (hh : hs.length < LIM) (D : Deed) (hf : D.fit us) : zPy t U b e h us hs.length D (zA T (d + 6) false 2 [.ref b, D.v] U) := by
 cases D with
 | ord ls =>
  obtain ⟨h1, h2, h3, h4⟩ := hf
  refine .yes _ (us ++ [yn ls]) [] (hs ++ [.tup [dO ls, .ref (U.set e (.list (us.map Or.v ++ [(yn ls).v]))).length]]) (zM5 (d := d + 2) HT B h1 h2 h3 (by rw [List.length_map]; exact h4) hh) rfl (.ord ls) (by rw [List.map_append]; exact ((B.setE _).push _).setH _) (by rw [List.length_append]; rfl) fun m o me mh hm => ?_
  exact zP (yz (zP hm me.symm)) mh.symm
 | pay o n =>
  cases he : zBP us o n with
  | some c => exact .no c (zM7 (d := d + 3) HT B he) he
  | none =>
   have he' : zBz n (atI us o) = none := he
   cases ho : atI us o with
   | none => rw [ho] at he'; cases he'
   | some u =>
    obtain ⟨o, rfl, hu⟩ := zf ho
    rw [ho] at he'
    have hn : 1 <= n := by
     have : (if n < 1 then some Cls.NoNumber else none) = none := he'
     split at this
     ·cases this
     ·omega
    have hd := zM6 (d := d + 3) (o := o) (n := n) HT B he hu (hr u (List.mem_of_getElem? hu)) hh
    rw [Int.zero_sub] at hd
    exact .yes _ _ [((o : Int), -n)] _ hd he (.pay o n u hu hn) (((B.push _).setH _).setE _) (by rw [List.length_append]; rfl) zA4
 | ref o n =>
  cases he : zBQ us o n with
  | some c => exact .no c (zM9 HT B hok he) he
  | none =>
   have he' : zD4 n (atI us o) = none := he
   cases ho : atI us o with
   | none => rw [ho] at he'; cases he'
   | some u =>
    obtain ⟨o, rfl, hu⟩ := zf ho
    rw [ho] at he'
    obtain ⟨h1, h2⟩ := zAB he'
    have hd := zM8 (d := d) (o := o) (n := n) HT B hok he hu (hr u (List.mem_of_getElem? hu)) hh
    rw [show (0 - (0 - n)) = n by omega] at hd
    exact .yes _ _ [((o : Int), n)] _ hd he (.ref o n u hu h1 h2) (((B.push _).setH _).setE _) (by rw [List.length_append]; rfl) zA4
 | mov o p n =>
  cases he : zBO us o p n with
  | some c => exact .no c (zM4 HT B hok he) he
  | none =>
   have he' : zD2 us o p n (atI us o) = none := he
   cases ho : atI us o with
   | none => rw [ho] at he'; cases he'
   | some u =>
    obtain ⟨o, rfl, hu⟩ := zf ho
    rw [ho] at he'
    have he2 : zD3 u o p n (atI us p) = none := he'
    cases hp : atI us p with
    | none => rw [hp] at he2; cases he2
    | some u' =>
     obtain ⟨p, rfl, hu'⟩ := zf hp
     rw [hp] at he2
     have he3 : (if ((o : Int) == (p : Int)) = true then some Cls.SameOrder else wF n (0 - u.owed)) = none := he2
     split at he3
     ·cases he3
     ·rename_i hne
      obtain ⟨h1, h2⟩ := zAB he3
      have hop : o ≠ p := fun q => hne (by rw [q, beq_self_eq_true])
      have hd := zM3 (d := d) (o := o) (p := p) (n := n) HT B hok he hu hu' hop (hr u (List.mem_of_getElem? hu)) (hr u' (List.mem_of_getElem? hu')) hh
      rw [show (0 - (0 - n)) = n by omega, Int.zero_sub] at hd
      exact .yes _ _ [((o : Int), n), ((p : Int), -n)] _ hd he (.mov o p n u u' hu hu' hop h1 h2) (((B.push _).setH _).setE _) (by rw [List.length_append]; rfl) zA4
 | lin w o k n =>
  cases he : zJg us w o k n with
  | some c => exact .no c (zOv HT B hok he) he
  | none =>
   have he' : zHG w k n (atI us o) = none := he
   cases ho : atI us o with
   | none => rw [ho] at he'; cases he'
   | some u =>
    obtain ⟨o, rfl, hu⟩ := zf ho
    rw [ho] at he'
    have he2 : zJf w n (atI u.lines k) = none := he'
    cases hk : atI u.lines k with
    | none => rw [hk] at he2; cases he2
    | some l =>
     obtain ⟨k, rfl, hl⟩ := zf hk
     rw [hk] at he2
     obtain ⟨h1, h2⟩ := zAB he2
     exact .yes _ _ [((o : Int), (zX w l n).charge - l.charge)] _ (zM2 (d := d) (o := o) (k := k) (n := n) HT B hok he hu hl (hr u (List.mem_of_getElem? hu)) hh) he (.lin w o k n u l hu hl h1 h2) (((B.push _).setH _).setE _) (by rw [List.length_append]; rfl) zA4
end
theorem zPI {T : Nat -> Option Fn} {d : Nat} {U : Sto} {b e h : Nat} {us : List Or} {hs : List V} (HT : zN T) (B : BookIn U b e h (us.map Or.v) hs) (hok : ∀ u ∈ us, u.ok) (hr : ∀ u ∈ us, u.rows.length < LIM) (hh : hs.length < LIM) (D : Deed) (hf : D.fit us) : Did U b e h us hs.length D (zA T (d + 6) false 2 [.ref b, D.v] U) := by
 cases zPJ (d := d) HT B hok hr hh D hf with
 | no c er he => exact .no c er he
 | yes U' us' out hs er he S B hl hk => exact .yes U' us' out hs er he S B hl hk
noncomputable def zC3 : Cls -> Str
 | .NoDeed => { cps := #[78, 111, 68, 101, 101, 100] }
 | .NoLines => { cps := #[78, 111, 76, 105, 110, 101, 115] }
 | .NoItem => { cps := #[78, 111, 73, 116, 101, 109] }
 | .NoNumber => { cps := #[78, 111, 78, 117, 109, 98, 101, 114] }
 | .FullBook => { cps := #[70, 117, 108, 108, 66, 111, 111, 107] }
 | .NoOrder => { cps := #[78, 111, 79, 114, 100, 101, 114] }
 | .SameOrder => { cps := #[83, 97, 109, 101, 79, 114, 100, 101, 114] }
 | .NoLine => { cps := #[78, 111, 76, 105, 110, 101] }
 | .TooMuch => { cps := #[84, 111, 111, 77, 117, 99, 104] }
 | _ => { cps := #[] }
noncomputable def zA7 (c : Cls) : Bool := c != .FlowError && c != .NothingDone && c != .ValueError
theorem zAC {n m : Int} {c : Cls} (h : wF n m = some c) : zA7 c = true := by
 unfold wF at h
 split at h
 ·cases h; rfl
 ·split at h
  ·cases h; rfl
  ·cases h
theorem Deed.told {us : List Or} {D : Deed} {c : Cls} (h : D.err us = some c) : zA7 c = true := by
 cases D with
 | ord ls => cases h
 | pay o n =>
  have h : zBz n (atI us o) = some c := h
  cases ho : atI us o with
  | none => rw [ho] at h; cases h; rfl
  | some u =>
   rw [ho] at h
   have h : (if n < 1 then some Cls.NoNumber else none) = some c := h
   split at h
   ·cases h; rfl
   ·cases h
 | ref o n =>
  have h : zD4 n (atI us o) = some c := h
  cases ho : atI us o with
  | none => rw [ho] at h; cases h; rfl
  | some u => rw [ho] at h; exact zAC h
 | mov o p n =>
  have h : zD2 us o p n (atI us o) = some c := h
  cases ho : atI us o with
  | none => rw [ho] at h; cases h; rfl
  | some u =>
   rw [ho] at h
   have h : zD3 u o p n (atI us p) = some c := h
   cases hp : atI us p with
   | none => rw [hp] at h; cases h; rfl
   | some u' =>
    rw [hp] at h
    have h : (if (o == p) = true then some Cls.SameOrder else wF n (0 - u.owed)) = some c := h
    split at h
    ·cases h; rfl
    ·exact zAC h
 | lin w o k n =>
  have h : zHG w k n (atI us o) = some c := h
  cases ho : atI us o with
  | none => rw [ho] at h; cases h; rfl
  | some u =>
   rw [ho] at h
   have h : zJf w n (atI u.lines k) = some c := h
   cases hk : atI u.lines k with
   | none => rw [hk] at h; cases h; rfl
   | some l => rw [hk] at h; exact zAC h
section
variable {T : Nat -> Option Fn} {t : Bool} {d k : Nat} {U U' : Sto} {b : Nat}
theorem zLm {deed v : V} (h : T k = some zFI) (hi : isInst U (.ref b) = true) (hd : zA T d false 2 [.ref b, deed] U = .ok v U') (hv : zI [.ref b, deed] 1 = some deed) : zA T (d + 1) false k [.ref b, deed] U = .ok v U' := by
 refine zH h rfl ?_
 show exL _ _ false [.try .ret (.callm 2 (.var 0) [.var 1]) _] [.ref b, deed] U = _
 rw [yS, zLC, if_neg (by decide), zS (r := .ok v U') rfl hi (zC (by rw [zp, hv]; rfl) rfl) hd]; rfl
theorem zJv {deed : V} {c : Cls} (h : T k = some zFI) (hi : isInst U (.ref b) = true) (hc : zA7 c = true) (hd : zA T d false 2 [.ref b, deed] U = .exc c U') (hv : zI [.ref b, deed] 1 = some deed) : zA T (d + 1) false k [.ref b, deed] U = .ok (.str (zC3 c)) U' := by
 refine zH h rfl ?_
 show exL _ _ false [.try .ret (.callm 2 (.var 0) [.var 1]) _] [.ref b, deed] U = _
 rw [yS, zLC, if_neg (by decide), zS (r := .exc c U') rfl hi (zC (by rw [zp, hv]; rfl) rfl) hd]
 cases c <;> first | rfl | cases hc
noncomputable def Deed.raw (m : Nat) : Deed -> V
 | .ord ls => .tup [.str kF, .ref m]
 | D => D.v
theorem Deed.raw_of {D : Deed} {m : Nat} (hn : ∀ ls, D ≠ .ord ls) : D.raw m = D.v := by
 cases D with
 | ord ls => exact (hn ls rfl).elim
 | _ => rfl
theorem Deed.fit_of {D : Deed} {us : List Or} (hn : ∀ ls, D ≠ .ord ls) : D.fit us := by
 cases D with
 | ord ls => exact (hn ls rfl).elim
 | _ => exact trivial
theorem Deed.ord_or (D : Deed) : (∀ ls, D ≠ .ord ls) \/ ∃ ls, D = .ord ls := by
 cases D with
 | ord ls => exact .inr ⟨ls, rfl⟩
 | _ => exact .inl fun _ h => nomatch h
theorem Deed.read {D : Deed} {x : V} : zI [x, D.v] 1 = some D.v := by cases D <;> rfl
theorem zJt (h : T k = some zDB) {m : Nat} (D : Deed) (hm : ∀ ls, D = .ord ls -> U[m]? = some (.list (ls.map Ln.raw))) : zA T (d + 1) false k [D.raw m] U = .ok D.v U := by
 refine zH h rfl ?_
 cases D with
 | ord ls =>
  refine s_t rfl (zJ (yt (zC rfl (zC (ze (x := .ref m) rfl ?_) rfl))))
  show (match U[m]? with | some (.list xs) => some xs | _ => none).map V.lst = _
  rw [hm ls rfl]; rfl
 | pay o n => exact s_f rfl (zJ rfl)
 | ref o n => exact s_f rfl (zJ rfl)
 | mov o p n => exact s_f rfl (zJ rfl)
 | lin w o k n => cases w <;> exact s_f rfl (zJ rfl)
end
end Mine
end

section
namespace Mine
open PySem
structure Ln.inv (l : Ln) : Prop where
 ok : l.ok
 a0 : 0 <= l.a
 ab : l.a <= l.b
 bs : l.b <= l.s
 sp : l.s <= l.p + l.a
 r0 : 0 <= l.r
 rw : l.r <= l.worth
theorem zFr {x y c k : Int} (h : x <= y) (hc : 0 <= c) (hk : 1 <= k) : (x * c).fdiv k <= (y * c).fdiv k := by
 have k0 : 0 <= k := Int.le_trans (by decide) hk
 rw [Int.fdiv_eq_ediv_of_nonneg _ k0, Int.fdiv_eq_ediv_of_nonneg _ k0]
 exact Int.ediv_le_ediv (Int.lt_of_lt_of_le (by decide) hk) (Int.mul_le_mul_of_nonneg_right h hc)
theorem vA {x c k : Int} (h : 0 <= x) (hc : 0 <= c) (hk : 1 <= k) : 0 <= (x * c).fdiv k := by
 have k0 : 0 <= k := Int.le_trans (by decide) hk
 rw [Int.fdiv_eq_ediv_of_nonneg _ k0]
 exact Int.ediv_nonneg (Int.mul_nonneg h hc) k0
theorem Ln.inv.charge {l : Ln} (h : l.inv) : 0 <= l.charge := Int.sub_nonneg_of_le h.rw
theorem zGd (x y : Int) : zIy x y <= y /\ zIy x y <= x /\ (0 <= x -> 0 <= y -> 0 <= zIy x y) := by
 unfold zIy; split
 ·rename_i h; exact ⟨Int.le_refl _, Int.le_of_lt h, fun _ hy => hy⟩
 ·rename_i h; exact ⟨Int.not_lt.mp h, Int.le_refl _, fun hx _ => hx⟩
theorem zI1 {p s a n : Int} (h : n <= p - s + a) : s + n <= p + a := by omega
theorem Ln.inv.behind {l : Ln} (h : l.inv) {w : Wd} {n : Int} (h1 : 1 <= n) (h2 : n <= xZ w l) : (zX w l n).inv := by
 have hn : 0 <= n := Int.le_trans (by decide) h1
 cases w with
 | del => exact ⟨xY h.ok, h.a0, h.ab, Int.le_trans h.bs (Int.le_add_of_nonneg_right hn), zI1 h2, h.r0, Int.le_trans h.rw (zFr (Int.sub_le_sub_right (Int.le_add_of_nonneg_right hn) l.b) h.ok.c1 h.ok.k1)⟩
 | cred => exact ⟨xY h.ok, h.a0, h.ab, h.bs, h.sp, Int.add_nonneg h.r0 hn, Int.add_le_of_le_sub_left h2⟩
 | back =>
  have hp := zGd l.r (((l.s - (l.b + n)) * l.c).fdiv l.k)
  have hb : l.b + n <= l.s := Int.add_le_of_le_sub_left h2
  exact ⟨xY h.ok, h.a0, Int.le_trans h.ab (Int.le_add_of_nonneg_right hn), hb, h.sp, hp.2.2 h.r0 (vA (Int.sub_nonneg_of_le hb) h.ok.c1 h.ok.k1), hp.1⟩
 | swap =>
  have hp := zGd l.r (((l.s - (l.b + n)) * l.c).fdiv l.k)
  have hb : l.b + n <= l.s := Int.add_le_of_le_sub_left h2
  exact ⟨xY h.ok, Int.add_nonneg h.a0 hn, Int.add_le_add_right h.ab n, hb, Int.le_trans h.sp (Int.add_le_add_left (Int.le_add_of_nonneg_right hn) _), hp.2.2 h.r0 (vA (Int.sub_nonneg_of_le hb) h.ok.c1 h.ok.k1), hp.1⟩
theorem Ln.good.inv {l : Ln} (h : l.good) : l.fresh.inv :=
 ⟨h.ok.fresh, Int.le_refl _, Int.le_refl _, Int.le_refl _, Int.add_nonneg (Int.le_trans (by decide) h.ok.p1) (Int.le_refl 0), Int.le_refl _, vA (Int.le_refl _) h.ok.c1 h.ok.k1⟩
structure Or.inv (u : Or) : Prop where
 few : u.lines.length <= 20
 ls : ∀ l ∈ u.lines, l.inv
 paid0 : 0 <= u.paid
 sum : (u.rows.map (·.2)).sum = u.owed
theorem Or.inv.ok {u : Or} (h : u.inv) : u.ok := ⟨h.few, fun l hl => (h.ls l hl).ok⟩
theorem zBj : ∀ {l : List Int}, (∀ x ∈ l, 0 <= x) -> 0 <= l.sum
 | [], _ => Int.le_refl _
 | x :: l, h => by
  rw [List.sum_cons]
  have h1 := h x List.mem_cons_self
  exact Int.add_nonneg h1 (zBj fun y hy => h y (List.mem_cons_of_mem x hy))
theorem zGl : ∀ {l : List Int} {k : Nat} {x y : Int}, l[k]? = some y -> (l.set k x).sum = l.sum + (x - y)
 | [], _, _, _, h => by cases h
 | z :: l, 0, x, y, h => by
  obtain rfl : z = y := by simpa using h
  rw [List.set_cons_zero, List.sum_cons, List.sum_cons, Int.add_comm z l.sum, Int.add_assoc, Int.add_comm x]; exact congrArg _ (by rw [Int.add_comm, Int.sub_add_cancel])
 | z :: l, k + 1, x, y, h => by
  rw [List.set_cons_succ, List.sum_cons, List.sum_cons, zGl (l := l) (k := k) (by simpa using h), Int.add_assoc]
theorem zBi (a b : List Int) : (a ++ b).sum = a.sum + b.sum := by
 induction a with
 | nil => rw [List.nil_append, List.sum_nil, Int.zero_add]
 | cons x a ih => rw [List.cons_append, List.sum_cons, List.sum_cons, ih, Int.add_assoc]
theorem zKg (u : Or) (w : Str) (c : Int) : (xC u w c).owed = u.owed - c := (Int.sub_sub _ u.paid c).symm
theorem zGb {u : Or} {k : Nat} {l : Ln} (hl : u.lines[k]? = some l) (w : Wd) (n : Int) : (upL w u k l n).owed = u.owed + ((zX w l n).charge - l.charge) := by
 show ((u.lines.set k (zX w l n)).map Ln.charge).sum - u.paid = (u.lines.map Ln.charge).sum - u.paid + _
 rw [List.map_set, zGl (y := l.charge) (by rw [List.getElem?_map, hl]; rfl)]; exact Int.add_right_comm _ _ _
theorem zKf (ls : List Ln) (h : ∀ l ∈ ls, l.good) : (yn ls).owed = 0 := by
 show ((ls.map Ln.fresh).map Ln.charge).sum - 0 = 0
 rw [Int.sub_zero, List.map_map]
 have : ∀ ls : List Ln, (∀ l ∈ ls, l.good) -> (ls.map (Ln.charge ∘ Ln.fresh)).sum = 0 := fun ls => by
  induction ls with
  | nil => intro _; rfl
  | cons l ls ih =>
   intro h
   rw [List.map_cons, List.sum_cons, ih fun l hl => h l (List.mem_cons_of_mem _ hl)]
   show ((0 - 0) * l.c).fdiv l.k - 0 + 0 = 0
   rw [Int.sub_self, Int.zero_mul, Int.zero_fdiv]; rfl
 exact this ls h
theorem zZ {α : Type} {l : List α} {k : Nat} {x y : α} (h : y ∈ l.set k x) : y ∈ l \/ y = x := List.mem_or_eq_of_mem_set h
theorem Or.inv.pay {u : Or} (h : u.inv) (w : Str) {c : Int} (hp : 0 <= u.paid + c) : (xC u w c).inv := by
 refine ⟨h.few, h.ls, hp, ?_⟩
 rw [zKg]
 show ((u.rows ++ [(w, 0 - c)]).map (·.2)).sum = _
 rw [List.map_append, zBi, h.sum]
 show u.owed + (0 - c + 0) = u.owed - c; rw [Int.add_zero, Int.zero_sub]; rfl
theorem Or.inv.up {u : Or} (h : u.inv) {k : Nat} {l : Ln} (hl : u.lines[k]? = some l) {w : Wd} {n : Int} (h1 : 1 <= n) (h2 : n <= xZ w l) : (upL w u k l n).inv := by
 refine ⟨?_, fun m hm => ?_, h.paid0, ?_⟩
 ·show (u.lines.set k _).length <= 20; rw [List.length_set]; exact h.few
 ·rcases zZ hm with hm | rfl
  ·exact h.ls m hm
  ·exact (h.ls l (List.mem_of_getElem? hl)).behind h1 h2
 ·rw [zGb hl]
  show ((u.rows ++ [(w.s, (zX w l n).charge - l.charge)]).map (·.2)).sum = _
  rw [List.map_append, zBi, h.sum]
  show u.owed + ((zX w l n).charge - l.charge + 0) = _; rw [Int.add_zero]
theorem zLP {s p n : Int} (h : 0 <= s) (h2 : n <= 0 - (s - p)) : 0 <= p + (0 - n) := by omega
theorem Or.inv.back {u : Or} (h : u.inv) {n : Int} (h2 : n <= 0 - u.owed) : 0 <= u.paid + (0 - n) := by
 have h3 : 0 <= (u.lines.map Ln.charge).sum := zBj fun x hx => by
  obtain ⟨l, hl, rfl⟩ := List.mem_map.mp hx
  exact (h.ls l hl).charge
 exact zLP h3 h2
theorem zHc {ls : List Ln} (h2 : ls.length <= 20) (h : ∀ l ∈ ls, l.good) : (yn ls).inv := by
 refine ⟨by show (ls.map Ln.fresh).length <= 20; rw [List.length_map]; exact h2, fun m hm => ?_, Int.le_refl _, (zKf ls h).symm⟩
 obtain ⟨l, hl, rfl⟩ := List.mem_map.mp hm
 exact (h l hl).inv
section
variable {us us' : List Or} {D : Deed} {out : List (Int × Int)}
theorem Step.inv (S : Step us D us' out) (hf : D.fit us) (h : ∀ u ∈ us, u.inv) : ∀ u ∈ us', u.inv := fun v hv => by
 cases S with
 | ord ls =>
  rcases List.mem_append.mp hv with hv | hv
  ·exact h v hv
  ·rw [List.mem_singleton.mp hv]; exact zHc hf.2.1 hf.2.2.1
 | pay o n u hu h1 =>
  rcases zZ hv with hv | rfl
  ·exact h v hv
  ·have := h u (List.mem_of_getElem? hu)
   exact this.pay _ (Int.add_nonneg this.paid0 (Int.le_trans (by decide) h1))
 | ref o n u hu h1 h2 =>
  rcases zZ hv with hv | rfl
  ·exact h v hv
  ·have := h u (List.mem_of_getElem? hu)
   exact this.pay _ (this.back h2)
 | mov o p n u u' hu hu' hop h1 h2 =>
  have i1 := h u (List.mem_of_getElem? hu)
  have i2 := h u' (List.mem_of_getElem? hu')
  rcases zZ hv with hv | rfl
  ·rcases zZ hv with hv | rfl
   ·exact h v hv
   ·exact i1.pay _ (i1.back h2)
  ·exact i2.pay _ (Int.add_nonneg i2.paid0 (Int.le_trans (by decide) h1))
 | lin w o k n u l hu hl h1 h2 =>
  rcases zZ hv with hv | rfl
  ·exact h v hv
  ·exact (h u (List.mem_of_getElem? hu)).up hl h1 h2
theorem Step.rows (S : Step us D us' out) {R : Nat} (h : ∀ u ∈ us, u.rows.length <= R) : ∀ u ∈ us', u.rows.length <= R + 1 := fun v hv => by
 have pay : ∀ {u : Or} {w : Str} {c : Int}, u ∈ us -> (xC u w c).rows.length <= R + 1 := fun {u w c} hu => by
  show (u.rows ++ [_]).length <= R + 1
  rw [List.length_append]; exact Nat.succ_le_succ (h u hu)
 cases S with
 | ord ls =>
  rcases List.mem_append.mp hv with hv | hv
  ·exact Nat.le_succ_of_le (h v hv)
  ·rw [List.mem_singleton.mp hv]; exact Nat.zero_le _
 | pay o n u hu h1 =>
  rcases zZ hv with hv | rfl
  ·exact Nat.le_succ_of_le (h v hv)
  ·exact pay (List.mem_of_getElem? hu)
 | ref o n u hu h1 h2 =>
  rcases zZ hv with hv | rfl
  ·exact Nat.le_succ_of_le (h v hv)
  ·exact pay (List.mem_of_getElem? hu)
 | mov o p n u u' hu hu' hop h1 h2 =>
  rcases zZ hv with hv | rfl
  ·rcases zZ hv with hv | rfl
   ·exact Nat.le_succ_of_le (h v hv)
   ·exact pay (List.mem_of_getElem? hu)
  ·exact pay (List.mem_of_getElem? hu')
 | lin w o k n u l hu hl h1 h2 =>
  rcases zZ hv with hv | rfl
  ·exact Nat.le_succ_of_le (h v hv)
  ·show (u.rows ++ [_]).length <= R + 1
   rw [List.length_append]; exact Nat.succ_le_succ (h u (List.mem_of_getElem? hu))
theorem Step.len (S : Step us D us' out) : us'.length = us.length + (match D with | .ord _ => 1 | _ => 0) := by
 cases S with
 | ord ls => rw [List.length_append]; rfl
 | pay o n u hu h1 => rw [List.length_set]; rfl
 | ref o n u hu h1 h2 => rw [List.length_set]; rfl
 | mov o p n u u' hu hu' hop h1 h2 => unfold kj; rw [List.length_set, List.length_set]; rfl
 | lin w o k n u l hu hl h1 h2 => rw [List.length_set]; rfl
theorem Step.same_len (S : Step us D us' out) (hn : ∀ ls, D ≠ .ord ls) : us'.length = us.length := by
 have := S.len
 cases D with
 | ord ls => exact (hn ls rfl).elim
 | _ => exact this
theorem Step.ord_len (S : Step us D us' out) {ls : List Ln} (h : D = .ord ls) : us'.length = us.length + 1 := by
 subst h; exact S.len
end
end Mine
end

section
namespace Mine
open PySem
theorem zB7 {f : V -> Option PyData} (h : ∀ v x, f v = some x -> PyData.eqv x x = true) : ∀ (xs : List V) (ys : List PyData), xs.mapM f = some ys -> PyData.eqvAll ys ys = true
 | [], ys, e => by
  rw [List.mapM_nil] at e
  cases e; rfl
 | x :: xs, ys, e => by
  rw [List.mapM_cons] at e
  cases hx : f x with
  | none => rw [hx] at e; cases e
  | some y =>
   rw [hx] at e
   cases hr : xs.mapM f with
   | none => rw [hr] at e; cases e
   | some r =>
    rw [hr] at e
    cases e
    rw [PyData.eqvAll, h x y hx, zB7 h xs r hr]; rfl
theorem zCs (U : Sto) : ∀ (d : Nat) (v : V) (x : PyData), xU U d v = some x -> PyData.eqv x x = true
 | 0, v, x, h => by cases h
 | d + 1, v, x, h => by
  have lst : ∀ {o : Option PyData} {c : List PyData -> PyData} {xs : List V}, (∀ ys, PyData.eqv (c ys) (c ys) = PyData.eqvAll ys ys) -> (xs.mapM (xU U d)).map c = some x -> PyData.eqv x x = true := fun {o c xs} hc h => by
   obtain ⟨ys, hy, rfl⟩ := Option.map_eq_some_iff.mp h
   rw [hc]; exact zB7 (zCs U d) xs ys hy
  cases v with
  | undef => cases h
  | none => cases h; rfl
  | bool b => cases h; exact beq_self_eq_true b
  | int i => cases h; exact beq_self_eq_true i
  | str s => cases h; exact beq_self_eq_true s
  | tup xs => exact lst (o := none) (c := .tuple) (fun _ => rfl) h
  | lst xs => exact lst (o := none) (c := .list) (fun _ => rfl) h
  | ref n =>
   have h : zCr (xU U d) U[n]? = some x := h
   cases ho : U[n]? with
   | none => rw [ho] at h; cases h
   | some o =>
    rw [ho] at h
    cases o with
    | list xs => exact lst (o := none) (c := .list) (fun _ => rfl) h
    | dict es => cases h
    | inst as => cases h
  | exc c => cases h
  | parts => cases h
noncomputable def Has (U : Sto) (d : Nat) (v : V) : Prop := ∃ x, xU U d v = some x
theorem zDE {U : Sto} {d : Nat} : ∀ {xs : List V}, (∀ x ∈ xs, Has U d x) -> ∃ ys, xs.mapM (xU U d) = some ys
 | [], _ => ⟨[], rfl⟩
 | x :: xs, h => by
  obtain ⟨y, hy⟩ := h x List.mem_cons_self
  obtain ⟨ys, hys⟩ := zDE fun z hz => h z (List.mem_cons_of_mem x hz)
  exact ⟨y :: ys, by rw [List.mapM_cons, hy, hys]; rfl⟩
theorem zDF {U : Sto} {d n : Nat} {xs : List V} (hn : U[n]? = some (.list xs)) (h : ∀ x ∈ xs, Has U d x) : ∃ x, xU U (d + 1) (.ref n) = some x /\ zCr (xU U d) (some (.list xs)) = some x := by
 obtain ⟨ys, hy⟩ := zDE h
 refine ⟨.list ys, ?_, by show (xs.mapM (xU U d)).map PyData.list = _; rw [hy]; rfl⟩
 show zCr (xU U d) U[n]? = _
 rw [hn]
 show (xs.mapM (xU U d)).map PyData.list = _; rw [hy]; rfl
theorem zJe {U : Sto} {a b : V} {x : PyData} (ha : xU U wO a = some x) (hb : xU U wO b = some x) (hl : ∀ xs ys, listOf? U a = some xs -> listOf? U b = some ys -> xs.length = ys.length) : eqV U a b = some true := by
 have e : eqV.eqD U a b = some true := by
  show ((xU U wO a).bind fun x => (xU U wO b).map fun y => PyData.eqv x y) = _
  rw [ha, hb]
  show some (PyData.eqv x x) = _
  rw [zCs U _ _ _ ha]
 unfold eqV
 split
 ·rename_i xs ys h1 h2
  rw [hl xs ys h1 h2, bne_self_eq_false]; exact e
 ·exact e
theorem zLt {U : Sto} {m n : Nat} {xs : List V} (hm : U[m]? = some (.list xs)) (hn : U[n]? = some (.list xs)) (h : ∀ x ∈ xs, Has U 7 x) : ev2 .ne U (.ref m) (.ref n) = some (.bool false) := by
 obtain ⟨x, h1, h2⟩ := zDF hm h
 obtain ⟨y, h3, h4⟩ := zDF hn h
 rw [h2] at h4; cases h4
 show (eqV U (.ref m) (.ref n)).map _ = _
 rw [zJe h1 h3 fun xs ys h1 h2 => by
  have h1 : xT U[m]? = some xs := h1
  have h2 : xT U[n]? = some ys := h2
  rw [hm] at h1; rw [hn] at h2; cases h1; cases h2; rfl]; rfl
inductive W8 where
 | lin (w : Wd) | pay | ref | mov | ord
noncomputable def W8.s : W8 -> Str
 | .lin w => w.s
 | .pay => wM
 | .ref => jy
 | .mov => yW
 | .ord => kF
theorem zOZ (U : Sto) (c : Int) : ∃ w : W8, ev2 .index U (.lst [.str jx, .str jx, .str jx, .str jx, .str zEZ, .str zEb, .str zEa, .str wM, .str wM, .str jy, .str yW, .str kF]) (.int (c.fmod 12)) = some (.str w.s) := by
 obtain ⟨k, hk, h2⟩ := jO c (m := 12) (by decide)
 rw [show ((12 : Nat) : Int) = 12 from rfl] at hk
 rw [hk]
 match k, h2 with
 | 0, _ => exact ⟨.lin .del, rfl⟩
 | 1, _ => exact ⟨.lin .del, rfl⟩
 | 2, _ => exact ⟨.lin .del, rfl⟩
 | 3, _ => exact ⟨.lin .del, rfl⟩
 | 4, _ => exact ⟨.lin .back, rfl⟩
 | 5, _ => exact ⟨.lin .swap, rfl⟩
 | 6, _ => exact ⟨.lin .cred, rfl⟩
 | 7, _ => exact ⟨.pay, rfl⟩
 | 8, _ => exact ⟨.pay, rfl⟩
 | 9, _ => exact ⟨.ref, rfl⟩
 | 10, _ => exact ⟨.mov, rfl⟩
 | 11, _ => exact ⟨.ord, rfl⟩
 | k + 12, h2 => omega
end Mine
end

section
namespace Mine
open PySem
noncomputable def zMb : Fn := { params := 2, slots := 2, body := [CS.ite (CE.p2 P2.lt (CE.var 1) (CE.p1 P1.len (CE.var 0))) [CS.ret (CE.p2 P2.index (CE.var 0) (CE.var 1))] [],CS.ret (CE.lit (V.int 0))] }
noncomputable def zJy : Fn := { params := 1, slots := 1, body := [CS.ret (CE.p2 P2.fdiv (CE.p2 P2.mul (CE.p2 P2.sub (CE.p2 P2.index (CE.var 0) (CE.lit (V.int 4))) (CE.p2 P2.index (CE.var 0) (CE.lit (V.int 5)))) (CE.p2 P2.index (CE.var 0) (CE.lit (V.int 2)))) (CE.p2 P2.index (CE.var 0) (CE.lit (V.int 3))))] }
noncomputable def zMc : Fn := { params := 1, slots := 1, body := [CS.ret (CE.p2 P2.sub (CE.p1 P1.sum (CE.comp (CE.p2 P2.sub (CE.call 102 [CE.var 1]) (CE.p2 P2.index (CE.var 1) (CE.lit (V.int 7)))) SK.val [CE.p2 P2.index (CE.var 0) (CE.lit (V.int 0))] none)) (CE.p2 P2.index (CE.var 0) (CE.lit (V.int 1))))] }
noncomputable def hMost : Fn := { params := 4, slots := 6, body := [CS.ite (CE.p1 P1.not (CE.chain (CE.lit (V.int 0)) [P2.le, P2.lt] [CE.var 1,CE.p1 P1.len (CE.var 3)])) [CS.ret (CE.lit (V.int 5))] [],CS.asg 4 (CE.call 103 [CE.p2 P2.index (CE.var 3) (CE.var 1)]),CS.ite (CE.p2 P2.eq (CE.var 0) (CE.lit (V.str { cps := #[112,97,121] }))) [CS.ret (CE.var 4)] [],CS.ite (CE.or (CE.p2 P2.eq (CE.var 0) (CE.lit (V.str { cps := #[114,101,102,117,110,100] }))) (CE.p2 P2.eq (CE.var 0) (CE.lit (V.str { cps := #[109,111,118,101] })))) [CS.ret (CE.p1 P1.neg (CE.var 4))] [],CS.ite (CE.p1 P1.not (CE.chain (CE.lit (V.int 0)) [P2.le, P2.lt] [CE.var 2,CE.p1 P1.len (CE.p2 P2.index (CE.p2 P2.index (CE.var 3) (CE.var 1)) (CE.lit (V.int 0)))])) [CS.ret (CE.lit (V.int 5))] [],CS.asg 5 (CE.p2 P2.index (CE.p2 P2.index (CE.p2 P2.index (CE.var 3) (CE.var 1)) (CE.lit (V.int 0))) (CE.var 2)),CS.ite (CE.p2 P2.eq (CE.var 0) (CE.lit (V.str { cps := #[100,101,108,105,118,101,114] }))) [CS.ret (CE.p2 P2.add (CE.p2 P2.sub (CE.p2 P2.index (CE.var 5) (CE.lit (V.int 1))) (CE.p2 P2.index (CE.var 5) (CE.lit (V.int 4)))) (CE.p2 P2.index (CE.var 5) (CE.lit (V.int 6))))] [],CS.ite (CE.p2 P2.eq (CE.var 0) (CE.lit (V.str { cps := #[99,114,101,100,105,116] }))) [CS.ret (CE.p2 P2.sub (CE.call 102 [CE.var 5]) (CE.p2 P2.index (CE.var 5) (CE.lit (V.int 7))))] [],CS.ret (CE.p2 P2.sub (CE.p2 P2.index (CE.var 5) (CE.lit (V.int 4))) (CE.p2 P2.index (CE.var 5) (CE.lit (V.int 5))))] }
noncomputable def hDeed : Fn := { params := 3, slots := 9, body := [CS.asg 3 (CE.list [CE.lit (V.str { cps := #[100,101,108,105,118,101,114] }),CE.lit (V.str { cps := #[100,101,108,105,118,101,114] }),CE.lit (V.str { cps := #[100,101,108,105,118,101,114] }),CE.lit (V.str { cps := #[100,101,108,105,118,101,114] }),CE.lit (V.str { cps := #[98,97,99,107] }),CE.lit (V.str { cps := #[115,119,97,112] }),CE.lit (V.str { cps := #[99,114,101,100,105,116] }),CE.lit (V.str { cps := #[112,97,121] }),CE.lit (V.str { cps := #[112,97,121] })]),CS.asg 3 (CE.p2 P2.add (CE.var 3) (CE.list [CE.lit (V.str { cps := #[114,101,102,117,110,100] }),CE.lit (V.str { cps := #[109,111,118,101] }),CE.lit (V.str { cps := #[111,114,100,101,114] })])),CS.asg 4 (CE.p2 P2.index (CE.var 3) (CE.p2 P2.mod (CE.p2 P2.mod (CE.p2 P2.mul (CE.var 0) (CE.lit (V.int 48271))) (CE.lit (V.int 10007))) (CE.lit (V.int 12)))),CS.ite (CE.or (CE.p2 P2.eq (CE.var 2) (CE.list [])) (CE.and (CE.p2 P2.eq (CE.var 4) (CE.lit (V.str { cps := #[111,114,100,101,114] }))) (CE.p2 P2.lt (CE.p1 P1.len (CE.var 2)) (CE.lit (V.int 4))))) [CS.ret (CE.tup [CE.lit (V.str { cps := #[111,114,100,101,114] }),CE.call 108 [CE.var 1]])] [],CS.ite (CE.p2 P2.eq (CE.var 4) (CE.lit (V.str { cps := #[111,114,100,101,114] }))) [CS.asg 4 (CE.lit (V.str { cps := #[109,111,118,101] }))] [],CS.asg 5 (CE.call 105 [CE.var 0,CE.lit (V.int 10037),CE.p1 P1.len (CE.var 2)]),CS.ite (CE.or (CE.p2 P2.eq (CE.var 4) (CE.lit (V.str { cps := #[112,97,121] }))) (CE.p2 P2.eq (CE.var 4) (CE.lit (V.str { cps := #[114,101,102,117,110,100] })))) [CS.ret (CE.tup [CE.var 4,CE.var 5,CE.call 106 [CE.var 1,CE.call 104 [CE.var 4,CE.var 5,CE.lit (V.int 0),CE.var 2]]])] [],CS.ite (CE.p2 P2.eq (CE.var 4) (CE.lit (V.str { cps := #[109,111,118,101] }))) [CS.asg 6 (CE.call 105 [CE.var 1,CE.lit (V.int 10099),CE.p1 P1.len (CE.var 2)]),CS.ret (CE.tup [CE.var 4,CE.var 5,CE.var 6,CE.call 106 [CE.var 1,CE.call 104 [CE.var 4,CE.var 5,CE.lit (V.int 0),CE.var 2]]])] [],CS.asg 7 (CE.lit (V.int 1)),CS.ite (CE.chain (CE.lit (V.int 0)) [P2.le, P2.lt] [CE.var 5,CE.p1 P1.len (CE.var 2)]) [CS.asg 7 (CE.p1 P1.len (CE.p2 P2.index (CE.p2 P2.index (CE.var 2) (CE.var 5)) (CE.lit (V.int 0))))] [],CS.asg 8 (CE.call 105 [CE.var 0,CE.lit (V.int 10091),CE.var 7]),CS.ret (CE.tup [CE.var 4,CE.var 5,CE.var 8,CE.call 106 [CE.var 1,CE.call 104 [CE.var 4,CE.var 5,CE.var 8,CE.var 2]]])] }
noncomputable def hRefusal : Fn := { params := 2, slots := 4, body := [CS.ite (CE.p2 P2.eq (CE.p2 P2.index (CE.var 0) (CE.lit (V.int 0))) (CE.lit (V.str { cps := #[111,114,100,101,114] }))) [CS.ret (CE.lit (V.str { cps := #[] }))] [],CS.ite (CE.or (CE.p1 P1.not (CE.chain (CE.lit (V.int 0)) [P2.le, P2.lt] [CE.p2 P2.index (CE.var 0) (CE.lit (V.int 1)),CE.p1 P1.len (CE.var 1)])) (CE.and (CE.p2 P2.eq (CE.p2 P2.index (CE.var 0) (CE.lit (V.int 0))) (CE.lit (V.str { cps := #[109,111,118,101] }))) (CE.p1 P1.not (CE.chain (CE.lit (V.int 0)) [P2.le, P2.lt] [CE.p2 P2.index (CE.var 0) (CE.lit (V.int 2)),CE.p1 P1.len (CE.var 1)])))) [CS.ret (CE.lit (V.str { cps := #[78,111,79,114,100,101,114] }))] [],CS.ite (CE.and (CE.p2 P2.eq (CE.p2 P2.index (CE.var 0) (CE.lit (V.int 0))) (CE.lit (V.str { cps := #[109,111,118,101] }))) (CE.p2 P2.eq (CE.p2 P2.index (CE.var 0) (CE.lit (V.int 1))) (CE.p2 P2.index (CE.var 0) (CE.lit (V.int 2))))) [CS.ret (CE.lit (V.str { cps := #[83,97,109,101,79,114,100,101,114] }))] [],CS.asg 2 (CE.lit (V.int 0)),CS.ite (CE.and (CE.p2 P2.eq (CE.p1 P1.len (CE.var 0)) (CE.lit (V.int 4))) (CE.p2 P2.ne (CE.p2 P2.index (CE.var 0) (CE.lit (V.int 0))) (CE.lit (V.str { cps := #[109,111,118,101] })))) [CS.asg 2 (CE.p2 P2.index (CE.var 0) (CE.lit (V.int 2)))] [],CS.ite (CE.p1 P1.not (CE.chain (CE.lit (V.int 0)) [P2.le, P2.lt] [CE.var 2,CE.p1 P1.len (CE.p2 P2.index (CE.p2 P2.index (CE.var 1) (CE.p2 P2.index (CE.var 0) (CE.lit (V.int 1)))) (CE.lit (V.int 0)))])) [CS.ret (CE.lit (V.str { cps := #[78,111,76,105,110,101] }))] [],CS.asg 3 (CE.p2 P2.index (CE.var 0) (CE.p2 P2.sub (CE.p1 P1.len (CE.var 0)) (CE.lit (V.int 1)))),CS.ite (CE.p2 P2.lt (CE.var 3) (CE.lit (V.int 1))) [CS.ret (CE.lit (V.str { cps := #[78,111,78,117,109,98,101,114] }))] [],CS.ite (CE.and (CE.p2 P2.ne (CE.p2 P2.index (CE.var 0) (CE.lit (V.int 0))) (CE.lit (V.str { cps := #[112,97,121] }))) (CE.p2 P2.gt (CE.var 3) (CE.call 104 [CE.p2 P2.index (CE.var 0) (CE.lit (V.int 0)),CE.p2 P2.index (CE.var 0) (CE.lit (V.int 1)),CE.var 2,CE.var 1]))) [CS.ret (CE.lit (V.str { cps := #[84,111,111,77,117,99,104] }))] [],CS.ret (CE.lit (V.str { cps := #[] }))] }
noncomputable def hTurned : Fn := { params := 2, slots := 5, body := [CS.asg 2 (CE.p2 P2.index (CE.var 0) (CE.p2 P2.sub (CE.p1 P1.len (CE.var 0)) (CE.lit (V.int 1)))),CS.ite (CE.or (CE.p2 P2.eq (CE.p2 P2.index (CE.var 0) (CE.lit (V.int 0))) (CE.lit (V.str { cps := #[112,97,121] }))) (CE.or (CE.p2 P2.eq (CE.p2 P2.index (CE.var 0) (CE.lit (V.int 0))) (CE.lit (V.str { cps := #[114,101,102,117,110,100] }))) (CE.p2 P2.eq (CE.p2 P2.index (CE.var 0) (CE.lit (V.int 0))) (CE.lit (V.str { cps := #[109,111,118,101] }))))) [CS.asg 3 (CE.p2 P2.sub (CE.lit (V.int 1)) (CE.p2 P2.mul (CE.lit (V.int 2)) (CE.p1 P1.toInt (CE.p2 P2.ne (CE.p2 P2.index (CE.var 0) (CE.lit (V.int 0))) (CE.lit (V.str { cps := #[112,97,121] })))))),CS.setItem (CE.p2 P2.index (CE.var 1) (CE.p2 P2.index (CE.var 0) (CE.lit (V.int 1)))) (CE.lit (V.int 1)) (CE.p2 P2.add (CE.p2 P2.index (CE.p2 P2.index (CE.var 1) (CE.p2 P2.index (CE.var 0) (CE.lit (V.int 1)))) (CE.lit (V.int 1))) (CE.p2 P2.mul (CE.var 3) (CE.var 2))),CS.ite (CE.p2 P2.eq (CE.p2 P2.index (CE.var 0) (CE.lit (V.int 0))) (CE.lit (V.str { cps := #[109,111,118,101] }))) [CS.setItem (CE.p2 P2.index (CE.var 1) (CE.p2 P2.index (CE.var 0) (CE.lit (V.int 2)))) (CE.lit (V.int 1)) (CE.p2 P2.add (CE.p2 P2.index (CE.p2 P2.index (CE.var 1) (CE.p2 P2.index (CE.var 0) (CE.lit (V.int 2)))) (CE.lit (V.int 1))) (CE.var 2))] [],CS.ret (CE.var 0)] [],CS.asg 4 (CE.p2 P2.index (CE.p2 P2.index (CE.p2 P2.index (CE.var 1) (CE.p2 P2.index (CE.var 0) (CE.lit (V.int 1)))) (CE.lit (V.int 0))) (CE.p2 P2.index (CE.var 0) (CE.lit (V.int 2)))),CS.ite (CE.p2 P2.eq (CE.p2 P2.index (CE.var 0) (CE.lit (V.int 0))) (CE.lit (V.str { cps := #[100,101,108,105,118,101,114] }))) [CS.setItem (CE.var 4) (CE.lit (V.int 4)) (CE.p2 P2.add (CE.p2 P2.index (CE.var 4) (CE.lit (V.int 4))) (CE.var 2))] [CS.ite (CE.p2 P2.eq (CE.p2 P2.index (CE.var 0) (CE.lit (V.int 0))) (CE.lit (V.str { cps := #[99,114,101,100,105,116] }))) [CS.setItem (CE.var 4) (CE.lit (V.int 7)) (CE.p2 P2.add (CE.p2 P2.index (CE.var 4) (CE.lit (V.int 7))) (CE.var 2))] [CS.setItem (CE.var 4) (CE.lit (V.int 5)) (CE.p2 P2.add (CE.p2 P2.index (CE.var 4) (CE.lit (V.int 5))) (CE.var 2)),CS.setItem (CE.var 4) (CE.lit (V.int 6)) (CE.p2 P2.add (CE.p2 P2.index (CE.var 4) (CE.lit (V.int 6))) (CE.p2 P2.mul (CE.var 2) (CE.p1 P1.toInt (CE.p2 P2.eq (CE.p2 P2.index (CE.var 0) (CE.lit (V.int 0))) (CE.lit (V.str { cps := #[115,119,97,112] })))))),CS.setItem (CE.var 4) (CE.lit (V.int 7)) (CE.p2 P2.min (CE.p2 P2.index (CE.var 4) (CE.lit (V.int 7))) (CE.call 102 [CE.var 4]))]],CS.ret (CE.var 0)] }
noncomputable def zMd : Fn := { params := 2, slots := 6, body := [CS.ite (CE.p2 P2.eq (CE.p2 P2.index (CE.var 0) (CE.lit (V.int 0))) (CE.lit (V.str { cps := #[111,114,100,101,114] }))) [CS.exp (CE.append (CE.var 1) (CE.trk (CE.list [CE.comp (CE.trk (CE.p2 P2.add (CE.p1 P1.toList (CE.var 6)) (CE.list [CE.lit (V.int 0),CE.lit (V.int 0),CE.lit (V.int 0),CE.lit (V.int 0)]))) SK.val [CE.p2 P2.index (CE.var 0) (CE.lit (V.int 1))] none, CE.lit (V.int 0),CE.trk (CE.list [])]))),CS.ret (CE.list [])] [],CS.asg 2 (CE.list [CE.p2 P2.index (CE.var 0) (CE.lit (V.int 1))]),CS.ite (CE.p2 P2.eq (CE.p2 P2.index (CE.var 0) (CE.lit (V.int 0))) (CE.lit (V.str { cps := #[109,111,118,101] }))) [CS.asg 2 (CE.list [CE.p2 P2.index (CE.var 0) (CE.lit (V.int 1)),CE.p2 P2.index (CE.var 0) (CE.lit (V.int 2))])] [],CS.asg 3 (CE.comp (CE.call 103 [CE.var 6]) SK.val [CE.var 1] none),CS.exp (CE.call 111 [CE.var 0,CE.var 1]),CS.asg 4 (CE.comp (CE.tup [CE.var 6,CE.p2 P2.sub (CE.call 103 [CE.p2 P2.index (CE.var 1) (CE.var 6)]) (CE.p2 P2.index (CE.var 3) (CE.var 6))]) SK.val [CE.var 2] none),CS.for 5 SK.val [CE.var 4] [CS.exp (CE.append (CE.p2 P2.index (CE.p2 P2.index (CE.var 1) (CE.p2 P2.index (CE.var 5) (CE.lit (V.int 0)))) (CE.lit (V.int 2))) (CE.tup [CE.p2 P2.index (CE.var 0) (CE.lit (V.int 0)),CE.p2 P2.index (CE.var 5) (CE.lit (V.int 1))]))],CS.ret (CE.var 4)] }
structure yg (T : Nat -> Option Fn) : Prop where
 t100 : T 100 = some zMb
 t102 : T 102 = some zJy
 t103 : T 103 = some zMc
 t104 : T 104 = some hMost
 t109 : T 109 = some hDeed
 t110 : T 110 = some hRefusal
 t111 : T 111 = some hTurned
 t112 : T 112 = some zMd
 t101 : T 101 = some zFJ
 t105 : T 105 = some zFH
 t106 : T 106 = some zDC
 t107 : T 107 = some zEE
 t108 : T 108 = some (zAD 107)
end Mine
end

section
namespace Mine
open PySem
theorem zJr {it : Items} {f : V -> List V -> Sto -> R (List V)} {xs : List V} {acc : List V} {U : Sto} (I : Nat -> List V -> Sto -> Prop) (hit : ∀ i acc U, I i acc U -> Gives U it xs) (h0 : I 0 acc U)
  (hs : ∀ i x acc U, xs[i]? = some x -> I i acc U -> ∃ acc' U', f x acc U = .ok acc' U' /\ I (i + 1) acc' U') :
  ∃ acc' U', zn it f acc U = .ok acc' U' /\ I xs.length acc' U' := by
 have key : ∀ k i acc U, k + i = xs.length -> I i acc U -> ∃ acc' U', yw it f (k + 1) i acc U = .ok acc' U' /\ I xs.length acc' U' := by
  intro k
  induction k with
  | zero =>
   intro i acc U hi h
   obtain rfl : i = xs.length := (Nat.zero_add i).symm.trans hi
   refine ⟨acc, U, ?_, h⟩
   exact zGu (((hit _ _ _ h).next _).trans (by rw [List.getElem?_eq_none (Nat.le_refl _)]))
  | succ k ih =>
   intro i acc U hi h
   have hlt : i < xs.length := Nat.lt_of_lt_of_eq (Nat.lt_add_of_pos_left (Nat.succ_pos k)) hi
   obtain ⟨acc', U', e, h'⟩ := hs i _ acc U (List.getElem?_eq_getElem hlt) h
   obtain ⟨acc'', U'', e', h''⟩ := ih (i + 1) acc' U' ((Nat.succ_add_eq_add_succ k i).symm.trans hi) h'
   refine ⟨acc'', U'', ?_, h''⟩
   rw [zGv (((hit _ _ _ h).next _).trans (by rw [List.getElem?_eq_getElem hlt]))]
   rw [e]; exact e'
 rw [zn, (hit _ _ _ h0).fuel]
 exact key xs.length 0 acc U rfl h0
theorem zDu {F : Calls} {elt : CE} {k : SK} {src : List CE} {J vs : List V} {U U1 : Sto} {it : Items} {xs : List V} (I : Nat -> List V -> Sto -> Prop)
  (hsrc : evL F false src J U = .ok vs U1) (hit : zT U1 k vs = some it) (hI : ∀ j acc U, I j acc U -> Gives U it xs /\ acc.length = j) (hl : xs.length <= LIM) (h0 : I 0 [] U1)
  (hs : ∀ j x acc U, xs[j]? = some x -> I j acc U -> ∃ y U', evE F false elt (J ++ [x]) U = .ok y U' /\ I (j + 1) (acc ++ [y]) U') :
  ∃ acc U', evE F false (.comp elt k src none) J U = .ok (.lst acc) U' /\ I xs.length acc U' := by
 obtain ⟨acc, U', e, h⟩ := zJr (it := it) (f := fun x acc U => (evC F false none (J ++ [x]) U).calm.bind fun t U => if t then (evE F false elt (J ++ [x]) U).calmE.bind fun y U => (if acc.length < LIM then .ok (acc ++ [y]) U else .stuck) else .ok acc U) I (fun j acc U h => (hI j acc U h).1) h0 (fun j x acc U hx h => by
  obtain ⟨y, U', e, h'⟩ := hs j x acc U hx h
  refine ⟨acc ++ [y], U', ?_, h'⟩
  show R.bind (evE F false elt (J ++ [x]) U).calmE _ = _
  rw [e]
  show (if acc.length < LIM then R.ok (acc ++ [y]) U' else .stuck) = _
  rw [if_pos (by rw [(hI j acc U h).2]; have := (List.getElem?_eq_some_iff.mp hx).1; omega)])
 refine ⟨acc, U', ?_, h⟩
 show ((evL F false src J U).bind fun vs U => (R.lift U (zT U k vs)).bind fun it U =>
   (zn it (fun x acc U => (evC F false none (J ++ [x]) U).calm.bind fun t U => if t then (evE F false elt (J ++ [x]) U).calmE.bind fun y U => (if acc.length < LIM then .ok (acc ++ [y]) U else .stuck) else .ok acc U) [] U).bind fun acc U => R.ok (V.lst acc) U) = _
 rw [hsrc, R.bind_ok, hit, R.lift_some, R.bind_ok, e]; rfl
theorem jM {F : Calls} {elt : CE} {k : SK} {src : List CE} {J vs : List V} {U U1 : Sto} {it : Items} {xs ys : List V} (hsrc : evL F false src J U = .ok vs U1) (hit : zT U1 k vs = some it) (hg : Gives U1 it xs) (hl : xs.length <= LIM) (hlen : xs.length = ys.length)
  (h : ∀ (j : Nat) (x : V), xs[j]? = some x -> ∃ y, ys[j]? = some y /\ evE F false elt (J ++ [x]) U1 = .ok y U1) : evE F false (.comp elt k src none) J U = .ok (.lst ys) U1 := by
 obtain ⟨acc, U', e, h1, h2, h3⟩ := zDu (elt := elt) (fun j acc U => U = U1 /\ acc = ys.take j /\ j <= ys.length) hsrc hit (fun j acc U hI => by obtain ⟨rfl, rfl, hj⟩ := hI; exact ⟨hg, by rw [List.length_take]; omega⟩) hl ⟨rfl, rfl, Nat.zero_le _⟩ fun j x acc U hx hI => by
  obtain ⟨rfl, rfl, hj⟩ := hI
  obtain ⟨y, hy, e⟩ := h j x hx
  exact ⟨y, _, e, rfl, by rw [List.take_add_one, hy]; rfl, (List.getElem?_eq_some_iff.mp hy).1⟩
 rw [e, h2, h1, hlen, List.take_length]
inductive Role where
 | bk (i : Nat) | en (i : Nat) | hi (i : Nat) | acc (i : Nat) | ord (i o : Nat) | row (i o : Nat) | lin (i o k : Nat) | kept | fresh | other
noncomputable def lnL (l : Ln) : List V := [.str l.item, .int l.p, .int l.c, .int l.k, .int l.s, .int l.b, .int l.a, .int l.r]
inductive OrdAt (U : Sto) (ro : Nat -> Role) (i o r : Nat) (u : Or) : Prop
 | mk (q : Nat) (ls : List V) (hr : U[r]? = some (.list [.lst ls, .int u.paid, .ref q])) (rr : ro r = .ord i o) (hq : U[q]? = some (.list (u.rows.map yO))) (rq : ro q = .row i o) (hl : ls.length = u.lines.length)
   (hls : ∀ (k : Nat) (l : Ln), u.lines[k]? = some l -> ∃ n : Nat, ls[k]? = some (.ref n) /\ U[n]? = some (.list (lnL l)) /\ ro n = .lin i o k)
structure Acct (U : Sto) (ro : Nat -> Role) (i a : Nat) (us : List Or) (rs : List V) : Prop where
 ord : U[a]? = some (.list rs)
 ra : ro a = .acc i
 len : rs.length = us.length
 at_ : ∀ (o : Nat) (u : Or), us[o]? = some u -> ∃ r : Nat, rs[o]? = some (.ref r) /\ OrdAt U ro i o r u
section
variable {T : Nat -> Option Fn} {d : Nat} {q : Bool} {U : Sto} {ro : Nat -> Role} {i a o r n : Nat} {us : List Or} {rs : List V} {u : Or} {l : Ln}
theorem zNl (M : yg T) (l : List Int) (k : Nat) : zA T (d + 1) q 100 [.lst (iv l), .int k] U = .ok (.int (gI l k)) U := by
 by_cases h : k < l.length
 ·exact zH M.t100 rfl (s_t (zE (t := true) (zD rfl (ze rfl (zi U (iv l))) (by rw [xG, wI, decide_eq_true (by omega)]))) (zJ (zD rfl rfl (xK U h))))
 ·have hg : gI l k = 0 := by simp [gI, List.getElem?_eq_none (Nat.le_of_not_lt h)]
  rw [hg]
  exact zH M.t100 rfl (s_f (zE (t := false) (zD rfl (ze rfl (zi U (iv l))) (by rw [xG, wI, decide_eq_false (by omega)]))) (zJ rfl))
theorem zg {F : Calls} {J : List V} {j k : Nat} {x : V} (hn : U[n]? = some (.list (lnL l))) (hv : zI J j = some (.ref n)) (hx : (lnL l)[k]? = some x) : evE F q (.p2 .index (.var j) (.lit (.int k))) J U = .ok x U :=
 zD (by rw [zp, hv]; rfl) rfl (zU U hn hx)
theorem zA2 (M : yg T) (hn : U[n]? = some (.list (lnL l))) (ok : l.ok) : zA T (d + 1) q 102 [.ref n] U = .ok (.int l.worth) U :=
 zH M.t102 rfl (zJ (zD (zD (zD (zg (k := 4) hn rfl rfl) (zg (k := 5) hn rfl rfl) rfl) (zg (k := 2) hn rfl rfl) (yI U _ _ (.inr (zDU ok)))) (zg (k := 3) hn rfl rfl) (wG U _ _ (zE9 ok.k1 ok.k2))))
theorem OrdAt.index (A : OrdAt U ro i o r u) : ∃ ls : List V, ev2 .index U (.ref r) (.int 0) = some (.lst ls) /\ ev2 .index U (.ref r) (.int 1) = some (.int u.paid) /\ ls.length = u.lines.length /\ ∀ (k : Nat) (l : Ln), u.lines[k]? = some l -> ∃ n : Nat, ls[k]? = some (.ref n) /\ U[n]? = some (.list (lnL l)) := by
 cases A with
 | mk q ls hr rr hq rq hl hls => exact ⟨ls, zU U (i := 0) hr rfl, zU U (i := 1) hr rfl, hl, fun k l h => by obtain ⟨n, h1, h2, _⟩ := hls k l h; exact ⟨n, h1, h2⟩⟩
theorem zBT (M : yg T) (A : OrdAt U ro i o r u) (ok : u.ok) : zA T (d + 2) false 103 [.ref r] U = .ok (.int u.owed) U := by
 obtain ⟨ls, h0, h1, hl, hls⟩ := A.index
 refine zH M.t103 rfl (zJ (zD (x := .int (u.lines.map Ln.charge).sum) (ze (x := .lst (iv (u.lines.map Ln.charge))) (jM (vs := [.lst ls]) (xs := ls) (zC (zD rfl rfl h0) rfl) rfl (.inl rfl) (by rw [hl]; exact Nat.le_of_lt ok.lim) (by rw [wI, List.length_map]; exact hl) fun j x hx => ?_) (xg U _)) (zD rfl rfl h1) rfl))
 have hj : j < u.lines.length := by rw [<- hl]; exact (List.getElem?_eq_some_iff.mp hx).1
 have hlj : u.lines[j]? = some u.lines[j] := List.getElem?_eq_getElem hj
 generalize u.lines[j] = l at hlj
 obtain ⟨n, hn, hnn⟩ := hls j l hlj
 rw [hn] at hx; cases hx
 refine ⟨.int l.charge, by unfold iv; rw [List.getElem?_map, List.getElem?_map, hlj]; rfl, zD (zK rfl (zA2 M hnn (ok.ls l (List.mem_of_getElem? hlj)))) (zg (k := 7) hnn rfl rfl) rfl⟩
theorem Acct.index (A : Acct U ro i a us rs) (hu : us[o]? = some u) : ∃ r : Nat, ev2 .index U (.ref a) (.int o) = some (.ref r) /\ OrdAt U ro i o r u := by
 obtain ⟨r, hr, h⟩ := A.at_ o u hu
 exact ⟨r, zU U A.ord hr, h⟩
theorem Acct.e_len {F : Calls} {J : List V} {j : Nat} (A : Acct U ro i a us rs) (h : zI J j = some (.ref a)) : evE F q (.p1 .len (.var j)) J U = .ok (.int us.length) U :=
 ze (x := .ref a) (by rw [zp, h]; rfl) (by rw [vH U A.ord, A.len])
noncomputable def xh (w : W8) (us : List Or) (at' place : Int) : Int := match atI us at' with
 | none => 5
 | some u => match w with
  | .pay => u.owed
  | .ref => -u.owed
  | .mov => -u.owed
  | .lin w => (match atI u.lines place with
   | none => 5
   | some l => xZ w l)
  | .ord => 5
theorem zFL (M : yg T) (A : Acct U ro i a us rs) (hok : ∀ u ∈ us, u.ok) (w : W8) (hw : w ≠ .ord) (at' place : Int) : zA T (d + 3) false 104 [.str w.s, .int at', .int place, .ref a] U = .ok (.int (xh w us at' place)) U := by
 refine zH M.t104 rfl ?_
 show exL (zA T (d + 2) false) (zA T (d + 2) true) false hMost.body [.str w.s, .int at', .int place, .ref a, .undef, .undef] U = _
 have hlen : evE (zA T (d + 2) false) false (.p1 .len (.var 3)) [.str w.s, .int at', .int place, .ref a, .undef, .undef] U = .ok (.int us.length) U := A.e_len rfl
 unfold xh
 cases hat : atI us at' with
 | none => exact s_t (zE (ze (yD rfl rfl hlen) (by rw [wD hat]; rfl))) (zJ rfl)
 | some u =>
  obtain ⟨o, rfl, hu⟩ := zf hat
  have ok := hok u (List.mem_of_getElem? hu)
  obtain ⟨r, hr, O⟩ := A.index hu
  have pre : ∀ {r : R Fl}, exL (zA T (d + 2) false) (zA T (d + 2) true) false (hMost.body.drop 2) [.str w.s, .int o, .int place, .ref a, .int u.owed, .undef] U = r -> exL (zA T (d + 2) false) (zA T (d + 2) true) false hMost.body [.str w.s, .int o, .int place, .ref a, .undef, .undef] U = r := fun kk =>
   s_f (zE (ze (yD rfl rfl hlen) (by rw [in_iff.mpr ⟨o, rfl, (List.getElem?_eq_some_iff.mp hu).1⟩]; rfl))) (zG (zK (zC (zD rfl rfl hr) rfl) (zBT M O ok)) kk)
  cases w with
  | ord => exact (hw rfl).elim
  | pay => exact pre (s_t rfl (zJ rfl))
  | ref => exact pre (s_f rfl (s_t rfl (zJ rfl)))
  | mov => exact pre (s_f rfl (s_t rfl (zJ rfl)))
  | lin w =>
   obtain ⟨ls, h0, h1, hl, hls⟩ := O.index
   have i0 : ∀ {F : Calls}, evE F false (.p2 .index (.p2 .index (.var 3) (.var 1)) (.lit (.int 0))) [.str w.s, .int o, .int place, .ref a, .int u.owed, .undef] U = .ok (.lst ls) U := zD (zD rfl rfl hr) rfl h0
   have hlen2 : evE (zA T (d + 2) false) false (.p1 .len (.p2 .index (.p2 .index (.var 3) (.var 1)) (.lit (.int 0)))) [.str w.s, .int o, .int place, .ref a, .int u.owed, .undef] U = .ok (.int u.lines.length) U := ze i0 (by rw [zi, hl])
   have pre2 : ∀ {r : R Fl}, exL (zA T (d + 2) false) (zA T (d + 2) true) false (hMost.body.drop 4) [.str w.s, .int o, .int place, .ref a, .int u.owed, .undef] U = r -> exL (zA T (d + 2) false) (zA T (d + 2) true) false hMost.body [.str w.s, .int o, .int place, .ref a, .undef, .undef] U = r := fun kk =>
    pre (s_f (zE (zD rfl rfl (zGn w))) (s_f (zE (zc (zD rfl rfl (zGo w)) rfl (zD rfl rfl (wW w)))) kk))
   show _ = R.ok (Fl.ret (V.int (match atI u.lines place with | none => 5 | some l => xZ w l))) U
   cases hpl : atI u.lines place with
   | none => exact pre2 (s_t (zE (ze (yD rfl rfl hlen2) (by rw [wD hpl]; rfl))) (zJ rfl))
   | some l =>
    obtain ⟨k, rfl, hk⟩ := zf hpl
    obtain ⟨n, hn, hnn⟩ := hls k l hk
    have il := ok.ls l (List.mem_of_getElem? hk)
    have pre3 : ∀ {r : R Fl}, exL (zA T (d + 2) false) (zA T (d + 2) true) false (hMost.body.drop 6) [.str w.s, .int o, .int k, .ref a, .int u.owed, .ref n] U = r -> exL (zA T (d + 2) false) (zA T (d + 2) true) false hMost.body [.str w.s, .int o, .int k, .ref a, .undef, .undef] U = r := fun kk =>
     pre2 (s_f (zE (ze (yD rfl rfl hlen2) (by rw [in_iff.mpr ⟨k, rfl, (List.getElem?_eq_some_iff.mp hk).1⟩]; rfl))) (zG (zD i0 rfl (yl U hn)) kk))
    cases w with
    | del => exact pre3 (s_t rfl (zJ (zD (zD (zg (k := 1) hnn rfl rfl) (zg (k := 4) hnn rfl rfl) rfl) (zg (k := 6) hnn rfl rfl) rfl)))
    | cred => exact pre3 (s_f rfl (s_t rfl (zJ (zD (zK rfl (zA2 M hnn il)) (zg (k := 7) hnn rfl rfl) rfl))))
    | back => exact pre3 (s_f rfl (s_f rfl (zJ (zD (zg (k := 4) hnn rfl rfl) (zg (k := 5) hnn rfl rfl) rfl))))
    | swap => exact pre3 (s_f rfl (s_f rfl (zJ (zD (zg (k := 4) hnn rfl rfl) (zg (k := 5) hnn rfl rfl) rfl))))
end
end Mine
end

section
namespace Mine
open PySem
inductive zOh (U : Sto) (us : List Or) (r : R V) : Prop
 | ord (ls : List Ln) (hf : (Deed.ord ls).fit us) (h4 : us.length < 4) (er : r = .ok ((Deed.ord ls).raw U.length) (U ++ [.list (ls.map Ln.raw)]))
 | oth (D : Deed) (hn : ∀ ls, D ≠ .ord ls) (er : r = .ok D.v U)
section
variable {T : Nat -> Option Fn} {d : Nat} {q : Bool} {U : Sto} {ro : Nat -> Role} {i a o r n : Nat} {us : List Or} {rs : List V} {u : Or} {l : Ln}
theorem zNd {m : Nat} (hm : U[m]? = some (.list rs)) : ev2 .eq U (.ref m) (.lst []) = some (.bool (rs.length == 0)) := by
 have h1 : listOf? U (.ref m) = some rs := by show xT U[m]? = _; rw [hm]; rfl
 show (eqV U (.ref m) (.lst [])).map V.bool = _
 cases rs with
 | cons x rs =>
  have : eqV U (.ref m) (.lst []) = some false := by
   unfold eqV; rw [h1]; rfl
  rw [this]; rfl
 | nil =>
  have : eqV U (.ref m) (.lst []) = some true := by
   unfold eqV; rw [h1]
   show ((zCr (xU U 7) U[m]?).bind fun x => some (PyData.eqv x (.list []))) = some true
   rw [hm]; rfl
  rw [this]; rfl
theorem zNm (M : yg T) (A : Acct U ro i a us rs) (hok : ∀ u ∈ us, u.ok) (c c2 : Int) : zOh U us (zA T (d + 4) false 109 [.int c, .int c2, .ref a] U) := by
 obtain ⟨w, hw⟩ := zOZ U ((c * 48271).fmod 10007)
 have hcall : ∀ {v : V} {U' : Sto}, exL (zA T (d + 3) false) (zA T (d + 3) true) false hDeed.body [.int c, .int c2, .ref a, .undef, .undef, .undef, .undef, .undef, .undef] U = .ok (.ret v) U' -> zA T (d + 4) false 109 [.int c, .int c2, .ref a] U = .ok v U' := fun hx => zH M.t109 rfl hx
 have pre : ∀ {r : R Fl}, exL (zA T (d + 3) false) (zA T (d + 3) true) false (hDeed.body.drop 3) [.int c, .int c2, .ref a, .lst [.str jx, .str jx, .str jx, .str jx, .str zEZ, .str zEb, .str zEa, .str wM, .str wM, .str jy, .str yW, .str kF], .str w.s, .undef, .undef, .undef, .undef] U = r ->
   exL (zA T (d + 3) false) (zA T (d + 3) true) false hDeed.body [.int c, .int c2, .ref a, .undef, .undef, .undef, .undef, .undef, .undef] U = r := fun kk =>
  zG rfl (zG rfl (zG (v := .str w.s) (zD rfl (xD (c := c) rfl rfl rfl rfl rfl) hw) kk))
 generalize hws : (V.lst [.str jx, .str jx, .str jx, .str jx, .str zEZ, .str zEb, .str zEa, .str wM, .str wM, .str jy, .str yW, .str kF]) = ws at pre
 clear hw
 have hlen : ∀ {J : List V}, zI J 2 = some (.ref a) -> evE (zA T (d + 3) false) false (.p1 .len (.var 2)) J U = .ok (.int us.length) U := fun h2 => A.e_len h2
 have ht1 : evE (zA T (d + 3) false) false (.p2 .eq (.var 2) (.list [])) [.int c, .int c2, .ref a, ws, .str w.s, .undef, .undef, .undef, .undef] U = .ok (.bool (us.length == 0)) U := zD rfl rfl (by rw [zNd A.ord, A.len])
 have ord : us.length < 4 -> ((us.length == 0) = true \/ (us.length == 0) = false /\ w = .ord) -> zOh U us (zA T (d + 4) false 109 [.int c, .int c2, .ref a] U) := fun h4 ho => by
  obtain ⟨ls, l1, l2, l3, hl⟩ := zLl (T := T) (d := d + 1) (k := 108) (it := 107) (U := U) M.t108 M.t107 c2
  have rt : exL (zA T (d + 3) false) (zA T (d + 3) true) false (.ret (.tup [.lit (.str kF), .call 108 [.var 1]]) :: hDeed.body.drop 4) [.int c, .int c2, .ref a, ws, .str w.s, .undef, .undef, .undef, .undef] U = .ok (.ret ((Deed.ord ls).raw U.length)) (U ++ [.list (ls.map Ln.raw)]) :=
   zJ (yt (zC rfl (zC (zK rfl hl) rfl)))
  refine .ord ls ⟨l1, l2, l3, by omega⟩ h4 (hcall (pre ?_))
  rcases ho with ho | ⟨h0, rfl⟩
  ·exact s_t (zE (by rw [ho] at ht1; exact zAA ht1 rfl)) rt
  ·exact s_t (zE (by rw [h0] at ht1; exact zc ht1 rfl (zq rfl rfl (zD (hlen rfl) rfl (by rw [xG, decide_eq_true (show (us.length : Int) < 4 by omega)]))))) rt
 cases h0 : (us.length == 0) with
 | true => exact ord (by have := eq_of_beq h0; omega) (.inl h0)
 | false =>
  rw [h0] at ht1
  by_cases hwo : w = .ord /\ us.length < 4
  ·exact ord hwo.2 (.inr ⟨h0, hwo.1⟩)
  ·have pre2 : ∃ w' : W8, w' ≠ .ord /\ ∀ {r : R Fl}, exL (zA T (d + 3) false) (zA T (d + 3) true) false (hDeed.body.drop 5) [.int c, .int c2, .ref a, ws, .str w'.s, .undef, .undef, .undef, .undef] U = r ->
     exL (zA T (d + 3) false) (zA T (d + 3) true) false (hDeed.body.drop 3) [.int c, .int c2, .ref a, ws, .str w.s, .undef, .undef, .undef, .undef] U = r := by
    cases w with
    | ord =>
     have h4 : ¬ us.length < 4 := fun h => hwo ⟨rfl, h⟩
     refine ⟨.mov, (fun h => nomatch h), fun kk => s_f (zE (zc ht1 rfl (zq rfl rfl (zD (hlen rfl) rfl (by rw [xG, decide_eq_false (show ¬ (us.length : Int) < 4 by omega)]))))) (s_t rfl (zG rfl kk))⟩
    | pay => exact ⟨.pay, (fun h => nomatch h), fun kk => s_f (zE (zc ht1 rfl (ye rfl rfl))) (s_f rfl kk)⟩
    | ref => exact ⟨.ref, (fun h => nomatch h), fun kk => s_f (zE (zc ht1 rfl (ye rfl rfl))) (s_f rfl kk)⟩
    | mov => exact ⟨.mov, (fun h => nomatch h), fun kk => s_f (zE (zc ht1 rfl (ye rfl rfl))) (s_f rfl kk)⟩
    | lin w => exact ⟨.lin w, (fun h => nomatch h), fun kk => s_f (zE (zc ht1 rfl (ye (zD rfl rfl (zCu w)) rfl))) (s_f (zE (zD rfl rfl (zCu w))) kk)⟩
   obtain ⟨w', hw', pre2⟩ := pre2
   obtain ⟨at', ha⟩ := zDD (T := T) (d := d + 2) (k := 105) (U := U) M.t105 c 10037 us.length rfl rfl
   have hmo := zFL (d := d) M A hok w' hw' at' 0
   obtain ⟨n, hn⟩ := zEF (T := T) (d := d + 2) (k := 106) (U := U) M.t106 c2 (xh w' us at' 0)
   have pre3 : ∀ {r : R Fl}, exL (zA T (d + 3) false) (zA T (d + 3) true) false (hDeed.body.drop 6) [.int c, .int c2, .ref a, ws, .str w'.s, .int at', .undef, .undef, .undef] U = r ->
     exL (zA T (d + 3) false) (zA T (d + 3) true) false hDeed.body [.int c, .int c2, .ref a, .undef, .undef, .undef, .undef, .undef, .undef] U = r := fun kk =>
    pre (pre2 (zG (zK (zC rfl (zC rfl (zC (hlen rfl) rfl))) ha) kk))
   cases w' with
   | ord => exact (hw' rfl).elim
   | pay => exact .oth (.pay at' n) (fun _ h => nomatch h) (hcall (pre3 (s_t rfl (zJ (yt (zC rfl (zC rfl (zC (zK (zC rfl (zC (zK rfl hmo) rfl)) hn) rfl))))))))
   | ref => exact .oth (.ref at' n) (fun _ h => nomatch h) (hcall (pre3 (s_t rfl (zJ (yt (zC rfl (zC rfl (zC (zK (zC rfl (zC (zK rfl hmo) rfl)) hn) rfl))))))))
   | mov =>
    obtain ⟨a2, ha2⟩ := zDD (T := T) (d := d + 2) (k := 105) (U := U) M.t105 c2 10099 us.length rfl rfl
    exact .oth (.mov at' a2 n) (fun _ h => nomatch h) (hcall (pre3 (s_f rfl (s_t rfl (zG (zK (zC rfl (zC rfl (zC (hlen rfl) rfl))) ha2) (zJ (yt (zC rfl (zC rfl (zC rfl (zC (zK (zC rfl (zC (zK rfl hmo) rfl)) hn) rfl)))))))))))
   | lin w =>
    have pre4 : ∃ sz : Int, ∀ {r : R Fl}, exL (zA T (d + 3) false) (zA T (d + 3) true) false (hDeed.body.drop 10) [.int c, .int c2, .ref a, ws, .str w.s, .int at', .undef, .int sz, .undef] U = r ->
      exL (zA T (d + 3) false) (zA T (d + 3) true) false hDeed.body [.int c, .int c2, .ref a, .undef, .undef, .undef, .undef, .undef, .undef] U = r := by
     have pre5 : ∀ {r : R Fl}, exL (zA T (d + 3) false) (zA T (d + 3) true) false (hDeed.body.drop 9) [.int c, .int c2, .ref a, ws, .str w.s, .int at', .undef, .int 1, .undef] U = r ->
       exL (zA T (d + 3) false) (zA T (d + 3) true) false hDeed.body [.int c, .int c2, .ref a, .undef, .undef, .undef, .undef, .undef, .undef] U = r := fun kk =>
      pre3 (s_f (zE (zc (zD rfl rfl (zGn w)) rfl (zD rfl rfl (zGo w)))) (s_f (zE (zD rfl rfl (wW w))) (zG rfl kk)))
     cases ht : (decide (0 <= at') && decide (at' < (us.length : Int))) with
     | false => exact ⟨1, fun kk => pre5 (s_f (zE (by rw [<- ht]; exact yD rfl rfl (hlen rfl))) kk)⟩
     | true =>
      obtain ⟨o, rfl, ho⟩ := in_iff.mp ht
      obtain ⟨r, hr, O⟩ := A.index (List.getElem?_eq_getElem ho)
      obtain ⟨ls, h0, _⟩ := O.index
      exact ⟨_, fun kk => pre5 (s_t (zE (by rw [<- ht]; exact yD rfl rfl (hlen rfl))) (zG (ze (zD (zD rfl rfl hr) rfl h0) (zi U ls)) kk))⟩
    obtain ⟨sz, pre4⟩ := pre4
    obtain ⟨pl, hpl⟩ := zDD (T := T) (d := d + 2) (k := 105) (U := U) M.t105 c 10091 sz rfl rfl
    have hmo := zFL (d := d) M A hok (.lin w) hw' at' pl
    obtain ⟨n, hn⟩ := zEF (T := T) (d := d + 2) (k := 106) (U := U) M.t106 c2 (xh (.lin w) us at' pl)
    exact .oth (.lin w at' pl n) (fun _ h => nomatch h) (hcall (pre4 (zG (zK rfl hpl) (zJ (yt (zC rfl (zC rfl (zC rfl (zC (zK (zC rfl (zC (zK rfl hmo) rfl)) hn) rfl)))))))))
noncomputable def yL : Option Cls -> Str
 | none => { cps := #[] }
 | some c => zC3 c
noncomputable def W8.isPay : W8 -> Bool
 | .pay => true
 | _ => false
noncomputable def wT (w : W8) (n m : Int) : Option Cls := if n < 1 then some .NoNumber else if w.isPay = false /\ n > m then some .TooMuch else none
structure zOo (dv : V) (w : W8) (at' n : Int) (z : Nat) : Prop where
 v : ∀ J : List V, zI (dv :: J) 0 = some dv
 w0 : ∀ U, ev2 .index U dv (.int 0) = some (.str w.s)
 a1 : ∀ U, ev2 .index U dv (.int 1) = some (.int at')
 len : ∀ U, ev1 .len U dv = some (.int z)
 last : ∀ U, ev2 .index U dv (.int ((z : Int) - 1)) = some (.int n)
theorem jw (M : yg T) (A : Acct U ro i a us rs) (hok : ∀ u ∈ us, u.ok) {dv : V} {w : W8} (hw : w ≠ .ord) {nn pl : Int} {z : Nat} (P : zOo dv w o nn z) (hu : us[o]? = some u) :
  exL (zA T (d + 3) false) (zA T (d + 3) true) false (hRefusal.body.drop 5) [dv, .ref a, .int pl, .undef] U = .ok (.ret (.str (yL (match atI u.lines pl with | none => some .NoLine | some _ => wT w nn (xh w us o pl))))) U := by
 obtain ⟨r, hr, O⟩ := A.index hu
 obtain ⟨ls, h0, h1, hl, hls⟩ := O.index
 have v0 : ∀ {F : Calls} {J : List V}, evE F false (.var 0) (dv :: J) U = .ok dv U := fun {F J} => by rw [zp, P.v]; rfl
 have hlen2 : evE (zA T (d + 3) false) false (.p1 .len (.p2 .index (.p2 .index (.var 1) (.p2 .index (.var 0) (.lit (.int 1)))) (.lit (.int 0)))) [dv, .ref a, .int pl, .undef] U = .ok (.int u.lines.length) U := ze (x := .lst ls) (zD (zD rfl (zD v0 rfl (P.a1 U)) hr) rfl h0) (by rw [zi, hl])
 cases hpl : atI u.lines pl with
 | none => exact s_t (zE (ze (yD rfl rfl hlen2) (by rw [wD hpl]; rfl))) (zJ rfl)
 | some l =>
  obtain ⟨k, rfl, hk⟩ := zf hpl
  refine s_f (zE (ze (yD rfl rfl hlen2) (by rw [in_iff.mpr ⟨k, rfl, (List.getElem?_eq_some_iff.mp hk).1⟩]; rfl))) (zG (v := .int nn) (zD v0 (zD (ze v0 (P.len U)) rfl (zA1 U z 1)) (P.last U)) ?_)
  show _ = R.ok (Fl.ret (V.str (yL (wT w nn (xh w us o k))))) U
  unfold wT
  by_cases h1 : nn < 1
  ·rw [if_pos h1]
   exact s_t (zE (t := true) (zD rfl rfl (by rw [xG, decide_eq_true h1]))) (zJ rfl)
  ·rw [if_neg h1]
   refine s_f (zE (t := false) (zD rfl rfl (by rw [xG, decide_eq_false h1]))) ?_
   have hm := zFL (d := d) M A hok w hw o k
   have em : evE (zA T (d + 3) false) false (.p2 .gt (.var 3) (.call 104 [.p2 .index (.var 0) (.lit (.int 0)), .p2 .index (.var 0) (.lit (.int 1)), .var 2, .var 1])) [dv, .ref a, .int k, .int nn] U = .ok (.bool (decide (nn > xh w us o k))) U :=
    zD rfl (zK (zC (zD v0 rfl (P.w0 U)) (zC (zD v0 rfl (P.a1 U)) (zC rfl (zC rfl rfl)))) hm) rfl
   have gen : w.isPay = false -> ev2 .ne U (.str w.s) (.str wM) = some (.bool true) -> exL (zA T (d + 3) false) (zA T (d + 3) true) false (hRefusal.body.drop 8) [dv, .ref a, .int k, .int nn] U = .ok (.ret (.str (yL (if w.isPay = false /\ nn > xh w us o k then some .TooMuch else none)))) U := fun hp hne => by
    by_cases h2 : nn > xh w us o k
    ·rw [if_pos ⟨hp, h2⟩]
     exact s_t (zE (t := true) (zq (zD (zD v0 rfl (P.w0 U)) rfl hne) rfl (by rw [decide_eq_true h2] at em; exact em))) (zJ rfl)
    ·rw [if_neg fun h => h2 h.2]
     exact s_f (zE (t := false) (zq (zD (zD v0 rfl (P.w0 U)) rfl hne) rfl (by rw [decide_eq_false h2] at em; exact em))) (zJ rfl)
   cases w with
   | ord => exact (hw rfl).elim
   | pay =>
    rw [if_neg fun h => nomatch h.1]
    exact s_f (zE (t := false) (ye (zD (zD v0 rfl (P.w0 U)) rfl (z := .bool false) rfl) rfl)) (zJ rfl)
   | ref => exact gen rfl rfl
   | mov => exact gen rfl rfl
   | lin w => exact gen rfl (zKz w)
theorem zFl {w : W8} {n m : Int} (h : w.isPay = false) : wT w n m = wF n m := by
 unfold wT wF
 rw [h]
 by_cases h1 : n < 1
 ·rw [if_pos h1, if_pos h1]
 ·rw [if_neg h1, if_neg h1]
  by_cases h2 : n > m
  ·rw [if_pos ⟨rfl, h2⟩, if_pos h2]
  ·rw [if_neg fun h => h2 h.2, if_neg h2]
theorem jB {u : Or} (h : 1 <= u.lines.length) : ∃ l, atI u.lines 0 = some l := ⟨u.lines[0], atI_nat' (List.getElem?_eq_getElem h)⟩
where
 atI_nat' {α : Type} {l : List α} {x : α} (h : l[0]? = some x) : atI l 0 = some x := by
  unfold atI
  rw [if_pos (by rw [Bool.and_eq_true, decide_eq_true_eq, decide_eq_true_eq]; have := (List.getElem?_eq_some_iff.mp h).1; omega)]; exact h
theorem zB3 (M : yg T) (A : Acct U ro i a us rs) (hok : ∀ u ∈ us, u.ok) (hne : ∀ u ∈ us, 1 <= u.lines.length) (D : Deed) (k : Nat) : zA T (d + 4) false 110 [D.raw k, .ref a] U = .ok (.str (yL (D.err us))) U := by
 refine zH M.t110 rfl ?_
 have ht : ∀ {J : List V} {c : CE} {x : Int}, zI J 1 = some (.ref a) -> evE (zA T (d + 3) false) false c J U = .ok (.int x) U -> evE (zA T (d + 3) false) false (.p1 .not (.chain (.lit (.int 0)) [.le, .lt] [c, .p1 .len (.var 1)])) J U = .ok (.bool !(decide (0 <= x) && decide (x < (us.length : Int)))) U := fun h1 hc => ze (yD rfl hc (A.e_len h1)) rfl
 have yes : ∀ {o : Nat} {u : Or}, us[o]? = some u -> (!(decide (0 <= (o : Int)) && decide ((o : Int) < (us.length : Int)))) = false := fun hu => by rw [in_iff.mpr ⟨_, rfl, (List.getElem?_eq_some_iff.mp hu).1⟩]; rfl
 have htN : ∀ {J : List V} {c : CE} {x : Int}, zI J 1 = some (.ref a) -> evE (zA T (d + 3) false) false c J U = .ok (.int x) U -> atI us x = none -> evE (zA T (d + 3) false) false (.p1 .not (.chain (.lit (.int 0)) [.le, .lt] [c, .p1 .len (.var 1)])) J U = .ok (.bool true) U := fun h1 hc hx => (ht h1 hc).trans (by rw [wD hx]; rfl)
 have htS : ∀ {J : List V} {c : CE} {o : Nat} {u : Or}, zI J 1 = some (.ref a) -> evE (zA T (d + 3) false) false c J U = .ok (.int (o : Int)) U -> us[o]? = some u -> evE (zA T (d + 3) false) false (.p1 .not (.chain (.lit (.int 0)) [.le, .lt] [c, .p1 .len (.var 1)])) J U = .ok (.bool false) U := fun h1 hc hu => (ht h1 hc).trans (by rw [yes hu])
 cases D with
 | ord ls => exact s_t rfl (zJ rfl)
 | pay at' n =>
  refine s_f rfl ?_
  show _ = R.ok (Fl.ret (V.str (yL (zBz n (atI us at'))))) U
  cases hat : atI us at' with
  | none => exact s_t (zE (t := true) (zAA (htN rfl (x := at') rfl hat) rfl)) (zJ rfl)
  | some u =>
   obtain ⟨o, rfl, hu⟩ := zf hat
   obtain ⟨l, hl⟩ := jB (hne u (List.mem_of_getElem? hu))
   have e := jw (d := d) (w := .pay) (pl := 0) (nn := n) (dv := dP o n) (z := 3) M A hok (fun h => nomatch h) ⟨fun _ => rfl, fun _ => rfl, fun _ => rfl, fun _ => rfl, fun _ => rfl⟩ hu
   rw [hl] at e
   refine s_f (zE (t := false) (zc (htS (o := o) rfl rfl hu) rfl (ye rfl rfl))) (s_f (zE (ye rfl rfl)) (zG rfl (s_f (zE (ye rfl rfl)) (e.trans ?_))))
   show R.ok (Fl.ret (V.str (yL (if n < 1 then some .NoNumber else if W8.isPay .pay = false /\ n > xh .pay us o 0 then some .TooMuch else none)))) U = R.ok (Fl.ret (V.str (yL (if n < 1 then some .NoNumber else none)))) U
   rw [if_neg (fun h : W8.isPay .pay = false /\ n > xh .pay us o 0 => nomatch h.1)]
 | ref at' n =>
  refine s_f rfl ?_
  show _ = R.ok (Fl.ret (V.str (yL (zD4 n (atI us at'))))) U
  cases hat : atI us at' with
  | none => exact s_t (zE (t := true) (zAA (htN rfl (x := at') rfl hat) rfl)) (zJ rfl)
  | some u =>
   obtain ⟨o, rfl, hu⟩ := zf hat
   obtain ⟨l, hl⟩ := jB (hne u (List.mem_of_getElem? hu))
   have e := jw (d := d) (w := .ref) (pl := 0) (nn := n) (dv := dR o n) (z := 3) M A hok (fun h => nomatch h) ⟨fun _ => rfl, fun _ => rfl, fun _ => rfl, fun _ => rfl, fun _ => rfl⟩ hu
   rw [hl] at e
   refine s_f (zE (t := false) (zc (htS (o := o) rfl rfl hu) rfl (ye rfl rfl))) (s_f (zE (ye rfl rfl)) (zG rfl (s_f (zE (ye rfl rfl)) (e.trans ?_))))
   show R.ok (Fl.ret (V.str (yL (wT .ref n (xh .ref us o 0))))) U = R.ok (Fl.ret (V.str (yL (wF n (0 - u.owed))))) U
   rw [zFl rfl, Int.zero_sub]
   unfold xh
   rw [hat]
 | mov at' p n =>
  refine s_f rfl ?_
  show _ = R.ok (Fl.ret (V.str (yL (zD2 us at' p n (atI us at'))))) U
  cases hat : atI us at' with
  | none => exact s_t (zE (t := true) (zAA (htN rfl (x := at') rfl hat) rfl)) (zJ rfl)
  | some u =>
   obtain ⟨o, rfl, hu⟩ := zf hat
   show _ = R.ok (Fl.ret (V.str (yL (zD3 u o p n (atI us p))))) U
   cases hp : atI us p with
   | none => exact s_t (zE (t := true) (zc (htS (o := o) rfl rfl hu) rfl (zq rfl rfl (htN rfl (x := p) rfl hp)))) (zJ rfl)
   | some u' =>
    obtain ⟨p, rfl, hu'⟩ := zf hp
    show _ = R.ok (Fl.ret (V.str (yL (if ((o : Int) == (p : Int)) = true then some .SameOrder else wF n (0 - u.owed))))) U
    refine s_f (zE (t := false) (zc (htS (o := o) rfl rfl hu) rfl (zq rfl rfl (htS (o := p) rfl rfl hu'))) ) ?_
    cases hop : ((o : Int) == (p : Int)) with
    | true => exact s_t (zE (t := true) (zq rfl rfl (zD rfl rfl (show ev2 .eq U (.int o) (.int p) = _ by rw [xP, hop])))) (zJ rfl)
    | false =>
     obtain ⟨l, hl⟩ := jB (hne u (List.mem_of_getElem? hu))
     have e := jw (d := d) (w := .mov) (pl := 0) (nn := n) (dv := dM o p n) (z := 4) M A hok (fun h => nomatch h) ⟨fun _ => rfl, fun _ => rfl, fun _ => rfl, fun _ => rfl, fun _ => rfl⟩ hu
     rw [hl] at e
     refine s_f (zE (t := false) (zq rfl rfl (zD rfl rfl (show ev2 .eq U (.int o) (.int p) = _ by rw [xP, hop])))) (zG rfl (s_f (zE (t := false) (zq rfl rfl rfl)) (e.trans ?_)))
     show R.ok (Fl.ret (V.str (yL (wT .mov n (xh .mov us o 0))))) U = R.ok (Fl.ret (V.str (yL (wF n (0 - u.owed))))) U
     rw [zFl rfl, Int.zero_sub]
     unfold xh
     rw [hat]
 | lin w at' pl n =>
  refine s_f (zE (zD rfl rfl (zCu w))) ?_
  show _ = R.ok (Fl.ret (V.str (yL (zHG w pl n (atI us at'))))) U
  cases hat : atI us at' with
  | none => exact s_t (zE (t := true) (zAA (htN rfl (x := at') rfl hat) rfl)) (zJ rfl)
  | some u =>
   obtain ⟨o, rfl, hu⟩ := zf hat
   have e := jw (d := d) (w := .lin w) (pl := pl) (nn := n) (dv := dL w o pl n) (z := 4) M A hok (fun h => nomatch h) ⟨fun _ => rfl, fun _ => rfl, fun _ => rfl, fun _ => rfl, fun _ => rfl⟩ hu
   refine s_f (zE (t := false) (zc (htS (o := o) rfl rfl hu) rfl (ye (zD rfl rfl (wW w)) rfl))) (s_f (zE (ye (zD rfl rfl (wW w)) rfl)) (zG rfl (s_t (zE (t := true) (zq rfl rfl (zD rfl rfl (show ev2 .ne U (.str w.s) (.str yW) = some (.bool true) by cases w <;> rfl)))) (zG (v := .int pl) rfl (e.trans ?_)))))
   show _ = R.ok (Fl.ret (V.str (yL (zJf w n (atI u.lines pl))))) U
   cases hpl : atI u.lines pl with
   | none => rfl
   | some l =>
    show R.ok (Fl.ret (V.str (yL (wT (.lin w) n (xh (.lin w) us o pl))))) U = R.ok (Fl.ret (V.str (yL (wF n (xZ w l))))) U
    rw [zFl rfl]
    unfold xh
    rw [hat]
    show R.ok (Fl.ret (V.str (yL (wF n (match atI u.lines pl with | none => 5 | some l => xZ w l))))) U = _
    rw [hpl]
end
end Mine
end

section
namespace Mine
open PySem
noncomputable def km (i o : Nat) (x : Role) : Prop := x = .ord i o \/ x = .row i o \/ ∃ k, x = .lin i o k
noncomputable def kl (i : Nat) (x : Role) : Prop := x = .acc i \/ ∃ o, km i o x
theorem zKQ {i o o' : Nat} {x : Role} (h : km i o x) (hne : o ≠ o') : ¬ km i o' x := fun h' => by
 rcases h with rfl | rfl | ⟨k, rfl⟩ <;> rcases h' with q | q | ⟨k', q⟩ <;> cases q <;> exact hne rfl
noncomputable def Role.tag : Role -> Nat
 | .bk _ => 0
 | .en _ => 1
 | .hi _ => 2
 | .acc _ => 3
 | .ord _ _ => 4
 | .row _ _ => 5
 | .lin _ _ _ => 6
 | .kept => 7
 | .fresh => 8
 | .other => 9
noncomputable def Role.ix : Role -> Nat
 | .bk i => i
 | .en i => i
 | .hi i => i
 | .acc i => i
 | .ord i _ => i
 | .row i _ => i
 | .lin i _ _ => i
 | _ => 0
theorem zCl {i o : Nat} {x : Role} (h : km i o x) : (4 <= x.tag /\ x.tag <= 6) /\ x.ix = i := by
 rcases h with rfl | rfl | ⟨k, rfl⟩
 ·exact ⟨⟨show 4 <= 4 by decide, show 4 <= 6 by decide⟩, rfl⟩
 ·exact ⟨⟨show 4 <= 5 by decide, show 5 <= 6 by decide⟩, rfl⟩
 ·exact ⟨⟨show 4 <= 6 by decide, show 6 <= 6 by decide⟩, rfl⟩
theorem wd {i : Nat} {x : Role} (h : kl i x) : (3 <= x.tag /\ x.tag <= 6) /\ x.ix = i := by
 rcases h with rfl | ⟨o, h⟩
 ·exact ⟨⟨show 3 <= 3 by decide, show 3 <= 6 by decide⟩, rfl⟩
 ·have := zCl h; exact ⟨⟨Nat.le_trans (by decide) this.1.1, this.1.2⟩, this.2⟩
theorem zN0 {i : Nat} {x : Role} (hx : x.tag < 3 \/ 6 < x.tag) : ¬ kl i x := fun h => by
 have := (wd h).1; omega
section
variable {T : Nat -> Option Fn} {d : Nat} {q : Bool} {U U' : Sto} {ro ro' : Nat -> Role} {i a o r n : Nat} {us : List Or} {rs : List V} {u u' : Or} {l : Ln}
theorem OrdAt.keep (Q : OrdAt U ro i o r u) (hk : ∀ (n : Nat) (x : O), km i o (ro n) -> U[n]? = some x -> U'[n]? = some x /\ ro' n = ro n) : OrdAt U' ro' i o r u := by
 cases Q with
 | mk q ls hr rr hq rq hl hls =>
  obtain ⟨a1, a2⟩ := hk r _ (.inl rr) hr
  obtain ⟨b1, b2⟩ := hk q _ (.inr (.inl rq)) hq
  refine .mk q ls a1 (a2.trans rr) b1 (b2.trans rq) hl fun k l h => ?_
  obtain ⟨n, h1, h2, h3⟩ := hls k l h
  obtain ⟨c1, c2⟩ := hk n _ (.inr (.inr ⟨k, h3⟩)) h2
  exact ⟨n, h1, c1, c2.trans h3⟩
theorem Acct.keep (A : Acct U ro i a us rs) (hk : ∀ (n : Nat) (x : O), kl i (ro n) -> U[n]? = some x -> U'[n]? = some x /\ ro' n = ro n) : Acct U' ro' i a us rs := by
 obtain ⟨a1, a2⟩ := hk a _ (.inl A.ra) A.ord
 exact ⟨a1, a2.trans A.ra, A.len, fun o u hu => by obtain ⟨r, hr, Q⟩ := A.at_ o u hu; exact ⟨r, hr, Q.keep fun n x hn hx => hk n x (.inr ⟨o, hn⟩) hx⟩⟩
theorem Acct.change (A : Acct U ro i a us rs) (hu : us[o]? = some u) (hr : rs[o]? = some (.ref r)) (O' : OrdAt U' ro i o r u') (hk : ∀ (n : Nat) (x : O), ¬ km i o (ro n) -> U[n]? = some x -> U'[n]? = some x) : Acct U' ro i a (us.set o u') rs := by
 have ho : o < us.length := (List.getElem?_eq_some_iff.mp hu).1
 refine ⟨hk a _ (by rw [A.ra]; exact fun h => absurd (zCl h).1.1 (show ¬ 4 <= 3 by decide)) A.ord, A.ra, by rw [List.length_set]; exact A.len, fun p v hv => ?_⟩
 by_cases hp : o = p
 ·subst hp
  rw [List.getElem?_set_self ho] at hv
  cases hv
  exact ⟨r, hr, O'⟩
 ·rw [List.getElem?_set_ne hp] at hv
  obtain ⟨s, hs, Q⟩ := A.at_ p v hv
  exact ⟨s, hs, Q.keep fun n x hn hx => ⟨hk n x (zKQ hn (fun q => hp q.symm)) hx, rfl⟩⟩
theorem OrdAt.paid (Q : OrdAt U ro i o r u) (x : Int) : ∃ U', xI U (.ref r) (.int 1) (.int x) = .ok () U' /\ OrdAt U' ro i o r { u with paid := x } /\ ∀ (n : Nat) (y : O), ¬ km i o (ro n) -> U[n]? = some y -> U'[n]? = some y := by
 cases Q with
 | mk q ls hr rr hq rq hl hls =>
  refine ⟨_, xH U (i := 1) hr (show 1 < 3 by decide), .mk q ls (yF hr) rr (zP hq fun e => ?_) rq hl fun k l h => ?_, fun n y hn hy => zP hy fun e => ?_⟩
  ·rw [e, rq] at rr; cases rr
  ·obtain ⟨n, h1, h2, h3⟩ := hls k l h
   exact ⟨n, h1, zP h2 (fun e => by rw [e, h3] at rr; cases rr), h3⟩
  ·exact hn (by rw [<- e]; exact .inl rr)
theorem OrdAt.addRow (Q : OrdAt U ro i o r u) (w : Str × Int) (hlim : u.rows.length < LIM) : ∃ (q : Nat) (U' : Sto), ev2 .index U (.ref r) (.int 2) = some (.ref q) /\ kP U (.ref q) = true /\ wY U (.ref q) (yO w) = .ok .none U' /\ OrdAt U' ro i o r { u with rows := u.rows ++ [w] } /\ ∀ (n : Nat) (y : O), ¬ km i o (ro n) -> U[n]? = some y -> U'[n]? = some y := by
 cases Q with
 | mk q ls hr rr hq rq hl hls =>
  refine ⟨q, _, zU U (i := 2) hr rfl, by show (xT _).isSome = true; rw [hq]; rfl, zm U hq (by rw [List.length_map]; exact hlim), .mk q ls (zP hr fun e => ?_) rr ?_ rq hl fun k l h => ?_, fun n y hn hy => zP hy fun e => ?_⟩
  ·rw [e, rr] at rq; cases rq
  ·rw [yF hq]
   show _ = some (O.list ((u.rows ++ [w]).map yO))
   rw [List.map_append]; rfl
  ·obtain ⟨n, h1, h2, h3⟩ := hls k l h
   exact ⟨n, h1, zP h2 (fun e => by rw [e, h3] at rq; cases rq), h3⟩
  ·exact hn (by rw [<- e]; exact .inr (.inl rq))
theorem OrdAt.line (Q : OrdAt U ro i o r u) {k : Nat} (hk : u.lines[k]? = some l) : ∃ (ls : List V) (n : Nat), ev2 .index U (.ref r) (.int 0) = some (.lst ls) /\ ls[k]? = some (.ref n) /\ U[n]? = some (.list (lnL l)) /\
  ∀ l' : Ln, OrdAt (U.set n (.list (lnL l'))) ro i o r { u with lines := u.lines.set k l' } /\ ∀ (m : Nat) (y : O), ¬ km i o (ro m) -> U[m]? = some y -> (U.set n (.list (lnL l')))[m]? = some y := by
 cases Q with
 | mk q ls hr rr hq rq hl hls =>
  obtain ⟨n, h1, h2, h3⟩ := hls k l hk
  refine ⟨ls, n, zU U (i := 0) hr rfl, h1, h2, fun l' => ⟨.mk q ls (zP hr fun e => ?_) rr (zP hq fun e => ?_) rq (by rw [hl]; exact (List.length_set ..).symm) fun j m hm => ?_, fun m y hn hy => zP hy fun e => ?_⟩⟩
  ·rw [e, rr] at h3; cases h3
  ·rw [e, rq] at h3; cases h3
  ·have hkl : k < u.lines.length := (List.getElem?_eq_some_iff.mp hk).1
   by_cases hj : k = j
   ·subst hj
    have hm : (u.lines.set k l')[k]? = some m := hm
    rw [List.getElem?_set_self hkl] at hm
    cases hm
    exact ⟨n, h1, yF h2, h3⟩
   ·have hm : (u.lines.set k l')[j]? = some m := hm
    rw [List.getElem?_set_ne hj] at hm
    obtain ⟨p, g1, g2, g3⟩ := hls j m hm
    exact ⟨p, g1, zP g2 (fun e => by rw [e, g3] at h3; cases h3; exact hj rfl), g3⟩
  ·exact hn (by rw [<- e]; exact .inr (.inr ⟨k, h3⟩))
inductive Moved (U : Sto) (ro : Nat -> Role) (i a : Nat) (us' : List Or) (rs : List V) (v : V) (r : R V) : Prop
 | mk (U' : Sto) (er : r = .ok v U') (A : Acct U' ro i a us' rs) (hk : ∀ (n : Nat) (x : O), ¬ kl i (ro n) -> U[n]? = some x -> U'[n]? = some x)
theorem kS {x : Role} (h : ¬ kl i x) (o : Nat) : ¬ km i o x := fun q => h (.inr ⟨o, q⟩)
end
section
variable {T : Nat -> Option Fn} {d : Nat} {U : Sto} {ro : Nat -> Role} {i a o r p : Nat} {us : List Or} {rs : List V} {u u' : Or} {l : Ln} {n : Int}
theorem zFp (M : yg T) (A : Acct U ro i a us rs) (hu : us[o]? = some u) : Moved U ro i a (us.set o { u with paid := u.paid + n }) rs (dP o n) (zA T (d + 2) false 111 [dP o n, .ref a] U) := by
 obtain ⟨r, hr, Q⟩ := A.at_ o u hu
 have key : ∃ U', exL (zA T (d + 1) false) (zA T (d + 1) true) false hTurned.body [dP o n, .ref a, .undef, .undef, .undef] U = .ok (.ret (dP o n)) U' /\ Acct U' ro i a (us.set o { u with paid := u.paid + n }) rs /\ ∀ (m : Nat) (x : O), ¬ kl i (ro m) -> U[m]? = some x -> U'[m]? = some x := by
  refine Classical.byContradiction fun hno => hno ?_
  obtain ⟨ls, h0, hp, _⟩ := Q.index
  obtain ⟨U', e, O', hk⟩ := Q.paid (u.paid + n)
  have it : ∀ {F : Calls}, evE F false (.p2 .index (.var 1) (.p2 .index (.var 0) (.lit (.int 1)))) [dP o n, .ref a, .int n, .int 1, .undef] U = .ok (.ref r) U := zD rfl rfl (zU U A.ord hr)
  refine ⟨U', zG (v := .int n) rfl (s_t rfl (zG (v := .int 1) rfl (yQ (x := .int (u.paid + n)) (zD (zD it rfl hp) (zD (x := .int 1) (y := .int n) rfl rfl (yI U 1 n (.inl rfl))) (by rw [Int.one_mul]; rfl)) it rfl e (s_f rfl (zJ rfl))))), A.change hu hr O' hk, fun m x hm hx => hk m x (kS hm o) hx⟩
 obtain ⟨U', e, A', hk⟩ := key
 exact .mk U' (zH M.t111 rfl e) A' hk
theorem zFq (M : yg T) (A : Acct U ro i a us rs) (hu : us[o]? = some u) : Moved U ro i a (us.set o { u with paid := u.paid + (0 - n) }) rs (dR o n) (zA T (d + 2) false 111 [dR o n, .ref a] U) := by
 obtain ⟨r, hr, Q⟩ := A.at_ o u hu
 obtain ⟨ls, h0, hp, _⟩ := Q.index
 obtain ⟨U', e, O', hk⟩ := Q.paid (u.paid + (0 - n))
 have it : ∀ {F : Calls}, evE F false (.p2 .index (.var 1) (.p2 .index (.var 0) (.lit (.int 1)))) [dR o n, .ref a, .int n, .int (-1), .undef] U = .ok (.ref r) U := zD rfl rfl (zU U A.ord hr)
 exact .mk U' (zH M.t111 rfl (zG (v := .int n) rfl (s_t rfl (zG (v := .int (-1)) rfl (yQ (x := .int (u.paid + (0 - n))) (zD (zD it rfl hp) (zD (x := .int (-1)) (y := .int n) rfl rfl (yI U (-1) n (.inl rfl))) (by rw [show (-1) * n = 0 - n by omega]; rfl)) it rfl e (s_f rfl (zJ rfl))))))) (A.change hu hr O' hk) fun m x hm hx => hk m x (kS hm o) hx
theorem zFo (M : yg T) (A : Acct U ro i a us rs) (hu : us[o]? = some u) (hu' : us[p]? = some u') (hop : o ≠ p) : Moved U ro i a ((us.set o { u with paid := u.paid + (0 - n) }).set p { u' with paid := u'.paid + n }) rs (dM o p n) (zA T (d + 2) false 111 [dM o p n, .ref a] U) := by
 obtain ⟨r, hr, Q⟩ := A.at_ o u hu
 obtain ⟨ls, h0, hp, _⟩ := Q.index
 obtain ⟨U1, e, O', hk⟩ := Q.paid (u.paid + (0 - n))
 have A1 := A.change hu hr O' hk
 have hu2 : (us.set o { u with paid := u.paid + (0 - n) })[p]? = some u' := by rw [List.getElem?_set_ne hop]; exact hu'
 obtain ⟨r2, hr2, O2⟩ := A1.at_ p u' hu2
 obtain ⟨ls2, h02, hp2, _⟩ := O2.index
 obtain ⟨U2, e2, O2', hk2⟩ := O2.paid (u'.paid + n)
 have it : ∀ {F : Calls}, evE F false (.p2 .index (.var 1) (.p2 .index (.var 0) (.lit (.int 1)))) [dM o p n, .ref a, .int n, .int (-1), .undef] U = .ok (.ref r) U := zD rfl rfl (zU U A.ord hr)
 have it2 : ∀ {F : Calls}, evE F false (.p2 .index (.var 1) (.p2 .index (.var 0) (.lit (.int 2)))) [dM o p n, .ref a, .int n, .int (-1), .undef] U1 = .ok (.ref r2) U1 := zD rfl rfl (zU U1 A1.ord hr2)
 exact .mk U2 (zH M.t111 rfl (zG (v := .int n) rfl (s_t rfl (zG (v := .int (-1)) rfl (yQ (x := .int (u.paid + (0 - n))) (zD (zD it rfl hp) (zD (x := .int (-1)) (y := .int n) rfl rfl (yI U (-1) n (.inl rfl))) (by rw [show (-1) * n = 0 - n by omega]; rfl)) it rfl e (s_t rfl (yQ (x := .int (u'.paid + n)) (zD (zD it2 rfl hp2) rfl rfl) it2 rfl e2 (zJ rfl)))))))) (A1.change hu2 hr2 O2' hk2) fun m x hm hx => hk2 m x (kS hm p) (hk m x (kS hm o) hx)
theorem xM {F Fq : Calls} {J : List V} {c : CE} {k m : Nat} {x : V} {l l' : Ln} {rest : List CS} {R : R Fl} (h4 : zI J 4 = some (.ref m)) (hm : U[m]? = some (.list (lnL l))) (hc : evE F false c J U = .ok x U) (hk : k < 8) (hl : (lnL l).set k x = lnL l') (kk : exL F Fq false rest J (U.set m (.list (lnL l'))) = R) :
  exL F Fq false (.setItem (.var 4) (.lit (.int k)) c :: rest) J U = R :=
 yQ hc (by rw [zp, h4]; rfl) rfl ((xH U hm hk).trans (by rw [hl])) kk
theorem zFn (M : yg T) (A : Acct U ro i a us rs) (hu : us[o]? = some u) {k : Nat} (hl : u.lines[k]? = some l) (ok : l.ok) (w : Wd) : Moved U ro i a (us.set o { u with lines := u.lines.set k (zX w l n) }) rs (dL w o k n) (zA T (d + 2) false 111 [dL w o k n, .ref a] U) := by
 obtain ⟨r, hr, Q⟩ := A.at_ o u hu
 obtain ⟨ls, m, h0, hm, hmm, up⟩ := Q.line hl
 obtain ⟨O', hk⟩ := up (zX w l n)
 refine .mk _ (zH M.t111 rfl ?_) (A.change hu hr O' hk) fun m x hm hx => hk m x (kS hm o) hx
 refine zG (v := .int n) rfl (s_f (zE (zc (zD rfl rfl (zGn w)) rfl (zc (zD rfl rfl (zGo w)) rfl (zD rfl rfl (wW w))))) (zG (v := .ref m) (zD (zD (zD rfl rfl (zU U A.ord hr)) rfl h0) rfl (yl U hm)) ?_))
 have pt : ∀ {F : Calls} {k : Nat} {x : V}, (lnL l)[k]? = some x -> evE F false (.p2 .index (.var 4) (.lit (.int k))) [dL w o k n, .ref a, .int n, .undef, .ref m] U = .ok x U := fun hx => zg hmm rfl hx
 cases w with
 | del => exact s_t rfl (xM (k := 4) (x := .int (l.s + n)) rfl hmm (zD (zg (k := 4) hmm rfl rfl) rfl rfl) (by decide) rfl (zJ rfl))
 | cred => exact s_f rfl (s_t rfl (xM (k := 7) (x := .int (l.r + n)) rfl hmm (zD (zg (k := 7) hmm rfl rfl) rfl rfl) (by decide) rfl (zJ rfl)))
 | back =>
  have g1 : ∀ l' : Ln, (U.set m (.list (lnL l')))[m]? = some (.list (lnL l')) := fun l' => yF hmm
  refine s_f rfl (s_f rfl (xM (k := 5) (x := .int (l.b + n)) (l' := { l with b := l.b + n }) rfl hmm (zD (zg (k := 5) hmm rfl rfl) rfl rfl) (by decide) rfl ?_))
  refine xM (k := 6) (x := .int (l.a + 0)) (l := { l with b := l.b + n }) (l' := { l with b := l.b + n }) rfl (g1 _) (zD (zg (k := 6) (l := { l with b := l.b + n }) (g1 _) rfl rfl) (zD (y := .int 0) rfl rfl (by rw [yI _ n 0 (.inr rfl), Int.mul_zero])) rfl) (by decide) (by rw [Int.add_zero]; rfl) ?_
  rw [List.set_set]
  refine xM (k := 7) (l := { l with b := l.b + n }) (l' := zX .back l n) rfl (g1 _) (zD (zg (k := 7) (l := { l with b := l.b + n }) (g1 _) rfl rfl) (zK rfl (zA2 (l := { l with b := l.b + n }) M (g1 _) ⟨ok.1, ok.2, ok.3, ok.4, ok.5, ok.6⟩)) (zA0 _ _ _)) (by decide) rfl ?_
  rw [List.set_set]
  exact zJ rfl
 | swap =>
  have g1 : ∀ l' : Ln, (U.set m (.list (lnL l')))[m]? = some (.list (lnL l')) := fun l' => yF hmm
  refine s_f rfl (s_f rfl (xM (k := 5) (x := .int (l.b + n)) (l' := { l with b := l.b + n }) rfl hmm (zD (zg (k := 5) hmm rfl rfl) rfl rfl) (by decide) rfl ?_))
  refine xM (k := 6) (x := .int (l.a + n)) (l := { l with b := l.b + n }) (l' := { l with b := l.b + n, a := l.a + n }) rfl (g1 _) (zD (zg (k := 6) (l := { l with b := l.b + n }) (g1 _) rfl rfl) (zD (y := .int 1) (z := .int n) rfl rfl (by rw [yI _ n 1 (.inr rfl), Int.mul_one])) rfl) (by decide) rfl ?_
  rw [List.set_set]
  refine xM (k := 7) (l := { l with b := l.b + n, a := l.a + n }) (l' := zX .swap l n) rfl (g1 _) (zD (zg (k := 7) (l := { l with b := l.b + n, a := l.a + n }) (g1 _) rfl rfl) (zK rfl (zA2 (l := { l with b := l.b + n, a := l.a + n }) M (g1 _) ⟨ok.1, ok.2, ok.3, ok.4, ok.5, ok.6⟩)) (zA0 _ _ _)) (by decide) rfl ?_
  rw [List.set_set]
  exact zJ rfl
end
end Mine
end

section
namespace Mine
open PySem
section
variable {F Fq : Calls} {q : Bool} {U U1 U2 : Sto} {J J1 J2 : List V} {i v : Nat} {body rest : List CS} {x y : V} {r : R Fl}
theorem xb {s : CS} {rest : List CS} {J' : List V} {U' : Sto} {r : R Fl} (h : exS F Fq q s J U = .ok (.next J') U') (k : exL F Fq q rest J' U' = r) : exL F Fq q (s :: rest) J U = r := by
 rw [yS, h]; exact k
theorem zOH (hv : zI J v = some (.lst [x])) (h : exL F Fq false body (J.set i x) U = .ok (.next J1) U1) (k : exL F Fq false rest J1 U1 = r) : exL F Fq false (.for i .val [.var v] body :: rest) J U = r := by
 have e : exS F Fq false (.for i .val [.var v] body) J U = .ok (.next J1) U1 := by
  show ((evL F false [.var v] J U).bind fun vs U => (R.lift U (zT U .val vs)).bind fun it U => yZ it (fun x J U => (exL F Fq false body (J.set i x) U)) J U) = _
  rw [zC (vs := []) (show evE F false (.var v) J U = .ok (.lst [x]) U by rw [zp, hv]; rfl) rfl]
  show ((exL F Fq false body (J.set i x) U).bind fun fl U => match fl with
   | .next J => yy (.now [x]) (fun x J U => (exL F Fq false body (J.set i x) U)) 1 1 J U
   | .ret v => .ok (.ret v) U) = _
  rw [h]; rfl
 rw [yS, e]; exact k
theorem zOI (hv : zI J v = some (.lst [x, y])) (h : exL F Fq false body (J.set i x) U = .ok (.next J1) U1) (h' : exL F Fq false body (J1.set i y) U1 = .ok (.next J2) U2) (k : exL F Fq false rest J2 U2 = r) : exL F Fq false (.for i .val [.var v] body :: rest) J U = r := by
 have e : exS F Fq false (.for i .val [.var v] body) J U = .ok (.next J2) U2 := by
  show ((evL F false [.var v] J U).bind fun vs U => (R.lift U (zT U .val vs)).bind fun it U => yZ it (fun x J U => (exL F Fq false body (J.set i x) U)) J U) = _
  rw [zC (vs := []) (show evE F false (.var v) J U = .ok (.lst [x, y]) U by rw [zp, hv]; rfl) rfl]
  show ((exL F Fq false body (J.set i x) U).bind fun fl U => match fl with
   | .next J => yy (.now [x, y]) (fun x J U => (exL F Fq false body (J.set i x) U)) 2 1 J U
   | .ret v => .ok (.ret v) U) = _
  rw [h]
  show ((exL F Fq false body (J1.set i y) U1).bind fun fl U => match fl with
   | .next J => yy (.now [x, y]) (fun x J U => (exL F Fq false body (J.set i x) U)) 1 2 J U
   | .ret v => .ok (.ret v) U) = _
  rw [h']; rfl
 rw [yS, e]; exact k
end
section
variable {T : Nat -> Option Fn} {d : Nat} {U : Sto} {ro : Nat -> Role} {i a o r p : Nat} {us : List Or} {rs : List V} {u u' u1 u2 : Or} {l : Ln} {n : Int}
theorem zBL (M : yg T) (A : Acct U ro i a us rs) (hok : ∀ u ∈ us, u.ok) (hlim : us.length <= LIM) {J : List V} {j : Nat} {c : Nat} (hj : zI J j = some (.ref a)) (hlen : J.length = c) : evE (zA T (d + 2) false) false (.comp (.call 103 [.var c]) .val [.var j] none) J U = .ok (.lst (iv (us.map Or.owed))) U := by
 refine jM (vs := [.ref a]) (xs := rs) (zC (by rw [zp, hj]; rfl) rfl) (yV U A.ord) (.inr ⟨a, rfl, A.ord⟩) (by rw [A.len]; exact hlim) (by rw [wI, List.length_map]; exact A.len) fun k x hx => ?_
 have hk : k < us.length := by rw [<- A.len]; exact (List.getElem?_eq_some_iff.mp hx).1
 have hu : us[k]? = some us[k] := List.getElem?_eq_getElem hk
 generalize us[k] = u at hu
 obtain ⟨r, hr, Q⟩ := A.at_ k u hu
 rw [hr] at hx; cases hx
 have vc : evE (zA T (d + 2) false) false (.var c) (J ++ [.ref r]) U = .ok (.ref r) U := by
  rw [zp]; unfold zI; rw [List.getElem?_append_right (by omega), hlen, Nat.sub_self]; rfl
 exact ⟨.int u.owed, by unfold iv; rw [List.getElem?_map, List.getElem?_map, hu]; rfl, zK (zC vc rfl) (zBT M Q (hok u (List.mem_of_getElem? hu)))⟩
theorem zKm {F Fq : Calls} {dv x2 x3 x4 : V} {w : Str} {c : Int} (A : Acct U ro i a us rs) (hv : ∀ J : List V, zI (dv :: J) 0 = some dv) (w0 : ∀ U, ev2 .index U dv (.int 0) = some (.str w)) (hu : us[o]? = some u) (hlim : u.rows.length < LIM) :
  ∃ U', exL F Fq false [.exp (.append (.p2 .index (.p2 .index (.var 1) (.p2 .index (.var 5) (.lit (.int 0)))) (.lit (.int 2))) (.tup [.p2 .index (.var 0) (.lit (.int 0)), .p2 .index (.var 5) (.lit (.int 1))]))] [dv, .ref a, x2, x3, x4, .tup [.int o, .int c]] U = .ok (.next [dv, .ref a, x2, x3, x4, .tup [.int o, .int c]]) U' /\
   Acct U' ro i a (us.set o { u with rows := u.rows ++ [(w, c)] }) rs /\ ∀ (n : Nat) (x : O), ¬ kl i (ro n) -> U[n]? = some x -> U'[n]? = some x := by
 obtain ⟨r, hr, Q⟩ := A.at_ o u hu
 obtain ⟨q, U', h2, hl, ha, Q', hk⟩ := Q.addRow (w, c) hlim
 have v0 : evE F false (.var 0) [dv, .ref a, x2, x3, x4, .tup [.int o, .int c]] U = .ok dv U := by rw [zp, hv]; rfl
 exact ⟨U', yP (yC (zD (zD rfl rfl (zU U A.ord hr)) rfl h2) hl (yt (zC (zD v0 rfl (w0 U)) (zC rfl rfl))) ha) vC, A.change hu hr Q' hk, fun n x hn hx => hk n x (kS hn o) hx⟩
theorem zBf (M : yg T) (A : Acct U ro i a us rs) (hok : ∀ u ∈ us, u.ok) (hlim : us.length <= LIM) {dv : V} {w : W8} (hv : ∀ J : List V, zI (dv :: J) 0 = some dv) (w0 : ∀ U, ev2 .index U dv (.int 0) = some (.str w.s)) (a1 : ∀ U, ev2 .index U dv (.int 1) = some (.int o)) (hno : ∀ U, ev2 .eq U (.str w.s) (.str kF) = some (.bool false)) (hnm : ∀ U, ev2 .eq U (.str w.s) (.str yW) = some (.bool false))
  (hu : us[o]? = some u) (ho1 : u1.ok) (hr1 : u1.rows = u.rows) (hrl : u.rows.length < LIM) (ht : Moved U ro i a (us.set o u1) rs dv (zA T (d + 2) false 111 [dv, .ref a] U)) :
  Moved U ro i a (us.set o { u1 with rows := u.rows ++ [(w.s, u1.owed - u.owed)] }) rs (chV [((o : Int), u1.owed - u.owed)]) (zA T (d + 3) false 112 [dv, .ref a] U) := by
 cases ht with
 | mk U1 et A1 k1 =>
 have ho : o < us.length := (List.getElem?_eq_some_iff.mp hu).1
 have hu1 : (us.set o u1)[o]? = some u1 := List.getElem?_set_self ho
 obtain ⟨U2, es, A2, k2⟩ := zKm (F := zA T (d + 2) false) (Fq := zA T (d + 2) true) (x2 := .lst [.int o]) (x3 := .lst (iv (us.map Or.owed))) (x4 := chV [((o : Int), u1.owed - u.owed)]) (c := u1.owed - u.owed) A1 hv w0 hu1 (by rw [hr1]; exact hrl)
 have v0 : ∀ {F : Calls} {U : Sto} {J : List V}, evE F false (.var 0) (dv :: J) U = .ok dv U := fun {F U J} => by rw [zp, hv]; rfl
 have wo : ∀ {F : Calls} {U : Sto} {J : List V}, evC F false (some (.p2 .eq (.p2 .index (.var 0) (.lit (.int 0))) (.lit (.str kF)))) (dv :: J) U = .ok false U := fun {F U J} => zE (zD (zD v0 rfl (w0 U)) rfl (hno U))
 have wm : ∀ {F : Calls} {U : Sto} {J : List V}, evC F false (some (.p2 .eq (.p2 .index (.var 0) (.lit (.int 0))) (.lit (.str yW)))) (dv :: J) U = .ok false U := fun {F U J} => zE (zD (zD v0 rfl (w0 U)) rfl (hnm U))
 obtain ⟨r1, hr1', Q1⟩ := A1.at_ o u1 hu1
 have ec : evE (zA T (d + 2) false) false (.comp (.tup [.var 6, .p2 .sub (.call 103 [.p2 .index (.var 1) (.var 6)]) (.p2 .index (.var 3) (.var 6))]) .val [.var 2] none) [dv, .ref a, .lst [.int o], .lst (iv (us.map Or.owed)), .undef, .undef] U1 = .ok (chV [((o : Int), u1.owed - u.owed)]) U1 := by
  refine jM (vs := [.lst [.int o]]) (xs := [.int o]) (ys := chL [((o : Int), u1.owed - u.owed)]) rfl rfl (.inl rfl) (by show 1 <= LIM; decide) rfl fun k x hx => ?_
  match k, hx with
  | 0, hx =>
   cases hx
   exact ⟨_, rfl, yt (zC rfl (zC (zD (zK (zC (zD rfl rfl (zU U1 A1.ord hr1')) rfl) (zBT M Q1 ho1)) (zD rfl rfl (yl U1 (v := .int u.owed) (by unfold iv; rw [List.getElem?_map, List.getElem?_map, hu]; rfl))) rfl) rfl))⟩
  | k + 1, hx => cases hx
 refine .mk U2 (zH M.t112 rfl (s_f wo (zG (v := .lst [.int o]) (xl (zC (zD v0 rfl (a1 U)) rfl)) (s_f wm (zG (zBL M A hok hlim rfl rfl) (yP (zK (zC v0 (zC rfl rfl)) et) (zG ec (zOH rfl es (zJ rfl))))))))) ?_ fun n x hn hx => k2 n x hn (k1 n x hn hx)
 rw [List.set_set, hr1] at A2; exact A2
theorem ar1 {L p n : Int} : L - (p + (0 - n)) = L - p + n := by omega
theorem ar2 {L p n : Int} : L - (p + n) = L - p + -n := by omega
theorem ar3 {x n : Int} : x + n - x = n := by omega
theorem ar4 {n : Int} : 0 - (0 - n) = n := by omega
theorem zKr (M : yg T) (A : Acct U ro i a us rs) (hok : ∀ u ∈ us, u.ok) (hlim : us.length <= LIM) (hu : us[o]? = some u) (hu' : us[p]? = some u') (hop : o ≠ p) (hrl : u.rows.length < LIM) (hrl' : u'.rows.length < LIM) :
  Moved U ro i a (kj us o p u u' n) rs (chV [((o : Int), n), ((p : Int), -n)]) (zA T (d + 3) false 112 [dM o p n, .ref a] U) := by
 have ht := zFo (d := d) (n := n) M A hu hu' hop
 have ok1 : ({ u with paid := u.paid + (0 - n) } : Or).ok := ⟨(hok u (List.mem_of_getElem? hu)).few, (hok u (List.mem_of_getElem? hu)).ls⟩
 have ok2 : ({ u' with paid := u'.paid + n } : Or).ok := ⟨(hok u' (List.mem_of_getElem? hu')).few, (hok u' (List.mem_of_getElem? hu')).ls⟩
 generalize hu1 : ({ u with paid := u.paid + (0 - n) } : Or) = u1 at ht ok1
 generalize hu2 : ({ u' with paid := u'.paid + n } : Or) = u2 at ht ok2
 have w1 : u1.owed = u.owed + n := by rw [<- hu1]; show (u.lines.map Ln.charge).sum - (u.paid + (0 - n)) = (u.lines.map Ln.charge).sum - u.paid + n; exact ar1
 have w2 : u2.owed = u'.owed + -n := by rw [<- hu2]; show (u'.lines.map Ln.charge).sum - (u'.paid + n) = (u'.lines.map Ln.charge).sum - u'.paid + -n; exact ar2
 cases ht with
 | mk U1 et A1 k1 =>
 have ho : o < us.length := (List.getElem?_eq_some_iff.mp hu).1
 have hp : p < us.length := (List.getElem?_eq_some_iff.mp hu').1
 have h1 : ((us.set o u1).set p u2)[o]? = some u1 := by rw [List.getElem?_set_ne (fun q => hop q.symm)]; exact List.getElem?_set_self ho
 have h2 : ((us.set o u1).set p u2)[p]? = some u2 := List.getElem?_set_self (by rw [List.length_set]; exact hp)
 obtain ⟨U2, es, A2, k2⟩ := zKm (F := zA T (d + 2) false) (Fq := zA T (d + 2) true) (dv := dM o p n) (w := yW) (x2 := .lst [.int o, .int p]) (x3 := .lst (iv (us.map Or.owed))) (x4 := chV [((o : Int), n), ((p : Int), -n)]) (c := n) A1 (fun _ => rfl) (fun _ => rfl) h1 (by rw [<- hu1]; exact hrl)
 have h2' : (((us.set o u1).set p u2).set o { u1 with rows := u1.rows ++ [(yW, n)] })[p]? = some u2 := by rw [List.getElem?_set_ne hop]; exact h2
 obtain ⟨U3, es2, A3, k3⟩ := zKm (F := zA T (d + 2) false) (Fq := zA T (d + 2) true) (dv := dM o p n) (w := yW) (x2 := .lst [.int o, .int p]) (x3 := .lst (iv (us.map Or.owed))) (x4 := chV [((o : Int), n), ((p : Int), -n)]) (c := -n) A2 (fun _ => rfl) (fun _ => rfl) h2' (by rw [<- hu2]; exact hrl')
 obtain ⟨r1, hr1, Q1⟩ := A1.at_ o u1 h1
 obtain ⟨r2, hr2, Q2⟩ := A1.at_ p u2 h2
 have ec : evE (zA T (d + 2) false) false (.comp (.tup [.var 6, .p2 .sub (.call 103 [.p2 .index (.var 1) (.var 6)]) (.p2 .index (.var 3) (.var 6))]) .val [.var 2] none) [dM o p n, .ref a, .lst [.int o, .int p], .lst (iv (us.map Or.owed)), .undef, .undef] U1 = .ok (chV [((o : Int), n), ((p : Int), -n)]) U1 := by
  refine jM (vs := [.lst [.int o, .int p]]) (xs := [.int o, .int p]) (ys := chL [((o : Int), n), ((p : Int), -n)]) rfl rfl (.inl rfl) (by show 2 <= LIM; decide) rfl fun k x hx => ?_
  match k, hx with
  | 0, hx =>
   cases hx
   exact ⟨_, rfl, yt (zC rfl (zC (zD (zK (zC (zD rfl rfl (zU U1 A1.ord hr1)) rfl) (zBT M Q1 ok1)) (zD rfl rfl (yl U1 (v := .int u.owed) (by unfold iv; rw [List.getElem?_map, List.getElem?_map, hu]; rfl))) (by rw [zA1, w1, ar3])) rfl))⟩
  | 1, hx =>
   cases hx
   exact ⟨_, rfl, yt (zC rfl (zC (zD (zK (zC (zD rfl rfl (zU U1 A1.ord hr2)) rfl) (zBT M Q2 ok2)) (zD rfl rfl (yl U1 (v := .int u'.owed) (by unfold iv; rw [List.getElem?_map, List.getElem?_map, hu']; rfl))) (by rw [zA1, w2, ar3])) rfl))⟩
  | k + 2, hx => cases hx
 refine .mk U3 (zH M.t112 rfl (s_f rfl (zG (v := .lst [.int o]) rfl (s_t rfl (zG (v := .lst [.int o, .int p]) rfl (zG (zBL M A hok hlim rfl rfl) (yP (zK rfl et) (zG ec (zOI rfl es es2 (zJ rfl)))))))))) ?_ fun n x hn hx => k3 n x hn (k2 n x hn (k1 n x hn hx))
 have e : (((us.set o u1).set p u2).set o { u1 with rows := u1.rows ++ [(yW, n)] }).set p { u2 with rows := u2.rows ++ [(yW, -n)] } = kj us o p u u' n := by
  unfold kj
  rw [List.set_comm u2 _ (fun q => hop q.symm), List.set_set, List.set_set, <- hu1, <- hu2]
  show (us.set o { lines := u.lines, paid := u.paid + (0 - n), rows := u.rows ++ [(yW, n)] }).set p { lines := u'.lines, paid := u'.paid + n, rows := u'.rows ++ [(yW, -n)] } = (us.set o { lines := u.lines, paid := u.paid + (0 - n), rows := u.rows ++ [(yW, 0 - (0 - n))] }).set p { lines := u'.lines, paid := u'.paid + n, rows := u'.rows ++ [(yW, 0 - n)] }
  rw [ar4, Int.zero_sub]
 rw [<- e]; exact A3
end
end Mine
end

section
namespace Mine
open PySem
inductive jJ (U : Sto) (raws : List V) : V -> Prop
 | lst : jJ U raws (.lst raws)
 | ref (k : Nat) (h : U[k]? = some (.list raws)) : jJ U raws (.ref k)
inductive DeedAt (U : Sto) : Deed -> V -> Prop
 | ord (ls : List Ln) (lv : V) (h : jJ U (ls.map Ln.raw) lv) : DeedAt U (.ord ls) (.tup [.str kF, lv])
 | oth (D : Deed) (hn : ∀ ls, D ≠ .ord ls) : DeedAt U D D.v
theorem DeedAt.raw {U : Sto} {k : Nat} (D : Deed) (h : ∀ ls, D = .ord ls -> U[k]? = some (.list (ls.map Ln.raw))) : DeedAt U D (D.raw k) := by
 cases D with
 | ord ls => exact .ord ls (.ref k) (.ref k (h ls rfl))
 | _ => exact .oth _ (fun _ h => nomatch h)
theorem DeedAt.val {U : Sto} (D : Deed) : DeedAt U D D.v := by
 cases D with
 | ord ls => exact .ord ls _ .lst
 | _ => exact .oth _ (fun _ h => nomatch h)
inductive zCy (U : Sto) (ro : Nat -> Role) (i a : Nat) (us' : List Or) (v : V) (r : R V) : Prop
 | mk (U' : Sto) (ro' : Nat -> Role) (rs' : List V) (er : r = .ok v U') (A : Acct U' ro' i a us' rs') (hro : ∀ (n : Nat) (x : O), U[n]? = some x -> ro' n = ro n) (hk : ∀ (n : Nat) (x : O), ¬ kl i (ro n) -> U[n]? = some x -> U'[n]? = some x)
theorem Moved.stepped {U : Sto} {ro : Nat -> Role} {i a : Nat} {us' : List Or} {rs : List V} {v : V} {r : R V} (h : Moved U ro i a us' rs v r) : zCy U ro i a us' v r := by
 cases h with
 | mk U' er A hk => exact .mk U' ro rs er A (fun _ _ _ => rfl) hk
section
variable {T : Nat -> Option Fn} {d : Nat} {U : Sto} {ro : Nat -> Role} {i a : Nat} {us : List Or} {rs : List V}
noncomputable def xL (ls : List Ln) : Sto := ls.map fun l => O.list (lnL l.fresh)
theorem zE8 {F : Calls} {ls : List Ln} {lv : V} (hlim : ls.length <= LIM) (h : jJ U (ls.map Ln.raw) lv) : evE F false (.comp (.trk (.p2 .add (.p1 .toList (.var 6)) (.list [.lit (.int 0), .lit (.int 0), .lit (.int 0), .lit (.int 0)]))) .val [.p2 .index (.var 0) (.lit (.int 1))] none) [.tup [.str kF, lv], .ref a, .undef, .undef, .undef, .undef] U = .ok (.lst ((List.range ls.length).map fun t => .ref (U.length + t))) (U ++ xL ls) := by
 have key : ∀ {it : Items}, zT U .val [lv] = some it -> (∀ X : Sto, Gives (U ++ X) it (ls.map Ln.raw)) -> evE F false (.comp (.trk (.p2 .add (.p1 .toList (.var 6)) (.list [.lit (.int 0), .lit (.int 0), .lit (.int 0), .lit (.int 0)]))) .val [.p2 .index (.var 0) (.lit (.int 1))] none) [.tup [.str kF, lv], .ref a, .undef, .undef, .undef, .undef] U = .ok (.lst ((List.range ls.length).map fun t => .ref (U.length + t))) (U ++ xL ls) := fun {it} hit hg => by
  obtain ⟨acc, U', e, h1, h2, _⟩ := zDu (F := F) (elt := .trk (.p2 .add (.p1 .toList (.var 6)) (.list [.lit (.int 0), .lit (.int 0), .lit (.int 0), .lit (.int 0)]))) (k := .val) (src := [.p2 .index (.var 0) (.lit (.int 1))]) (J := [.tup [.str kF, lv], .ref a, .undef, .undef, .undef, .undef]) (vs := [lv]) (U := U) (U1 := U) (it := it) (xs := ls.map Ln.raw)
   (fun j acc U' => acc = (List.range j).map (fun t => V.ref (U.length + t)) /\ U' = U ++ xL (ls.take j) /\ j <= ls.length) rfl hit (fun j acc U' hI => by obtain ⟨rfl, rfl, _⟩ := hI; exact ⟨hg _, by rw [List.length_map, List.length_range]⟩) (by rw [List.length_map]; exact hlim) ⟨rfl, by rw [List.take_zero]; exact (List.append_nil U).symm, Nat.zero_le _⟩ fun j x acc U' hx hI => by
    obtain ⟨rfl, rfl, hj⟩ := hI
    rw [List.getElem?_map] at hx
    obtain ⟨l, hl, rfl⟩ := Option.map_eq_some_iff.mp hx
    have hjl : j < ls.length := (List.getElem?_eq_some_iff.mp hl).1
    refine ⟨.ref (U.length + j), U ++ xL (ls.take (j + 1)), ?_, ?_, rfl, hjl⟩
    ·rw [kq, zD (x := .lst [.str l.item, .int l.p, .int l.c, .int l.k]) (y := .lst [.int 0, .int 0, .int 0, .int 0]) (z := .lst (lnL l.fresh)) (ze (x := l.raw) rfl rfl) rfl rfl]
     show R.ok (V.ref (U ++ xL (ls.take j)).length) (U ++ xL (ls.take j) ++ [O.list (lnL l.fresh)]) = _
     have hn : (xL (ls.take j)).length = j := by unfold xL; rw [List.length_map, List.length_take]; exact Nat.min_eq_left hj
     rw [List.length_append, hn, List.append_assoc, List.take_add_one, hl]
     unfold xL
     rw [List.map_append]; rfl
    ·rw [List.range_succ, List.map_append]; rfl
  rw [e, h1, h2, List.length_map, List.take_length]
 cases h with
 | lst => exact key rfl fun _ => .inl rfl
 | ref k hk => exact key (yV U hk) fun X => .inr ⟨k, rfl, by rw [List.getElem?_append_left (List.getElem?_eq_some_iff.mp hk).1]; exact hk⟩
theorem zKq (M : yg T) (A : Acct U ro i a us rs) (hlim : us.length < LIM) {ls : List Ln} {lv : V} (hls : ls.length <= 20) (h : jJ U (ls.map Ln.raw) lv) : zCy U ro i a (us ++ [yn ls]) (.lst []) (zA T (d + 3) false 112 [.tup [.str kF, lv], .ref a] U) := by
 have hn : (xL ls).length = ls.length := by unfold xL; rw [List.length_map]
 have ha : a < U.length := (List.getElem?_eq_some_iff.mp A.ord).1
 generalize hrf : (List.range ls.length).map (fun t => V.ref (U.length + t)) = rf
 have ec := zE8 (F := zA T (d + 2) false) (a := a) (Nat.le_trans hls (by decide)) h
 rw [hrf] at ec
 generalize hS : U ++ xL ls ++ [O.list []] ++ [O.list [.lst rf, .int 0, .ref (U.length + ls.length)]] = S
 have hlen1 : (U ++ xL ls).length = U.length + ls.length := by rw [List.length_append, hn]
 have hlen2 : (U ++ xL ls ++ [O.list []]).length = U.length + ls.length + 1 := by rw [List.length_append, hlen1]; rfl
 have ee : evE (zA T (d + 2) false) false (.trk (.list [.comp (.trk (.p2 .add (.p1 .toList (.var 6)) (.list [.lit (.int 0), .lit (.int 0), .lit (.int 0), .lit (.int 0)]))) .val [.p2 .index (.var 0) (.lit (.int 1))] none, .lit (.int 0), .trk (.list [])])) [.tup [.str kF, lv], .ref a, .undef, .undef, .undef, .undef] U = .ok (.ref (U.length + ls.length + 1)) S := by
  rw [kq, xl (zC ec (zC (U2 := U ++ xL ls ++ [O.list []]) (vs := [.ref (U.length + ls.length)]) rfl (by
   rw [zBo, kq]
   show R.ok [V.ref (U ++ xL ls).length] (U ++ xL ls ++ [O.list []]) = _
   rw [hlen1])))]
  show R.ok (V.ref (U ++ xL ls ++ [O.list []]).length) (U ++ xL ls ++ [O.list []] ++ [O.list [.lst rf, .int 0, .ref (U.length + ls.length)]]) = _
  rw [hlen2, hS]
 have old : ∀ (n : Nat) (x : O), U[n]? = some x -> S[n]? = some x := fun n x hx => by
  rw [<- hS, List.append_assoc, List.append_assoc, List.getElem?_append_left (List.getElem?_eq_some_iff.mp hx).1]; exact hx
 have hSa := old a _ A.ord
 have atL : ∀ (k : Nat) (l : Ln), ls[k]? = some l -> S[U.length + k]? = some (.list (lnL l.fresh)) := fun k l hl => by
  have hk : k < ls.length := (List.getElem?_eq_some_iff.mp hl).1
  rw [<- hS, List.append_assoc, List.append_assoc, List.getElem?_append_right (Nat.le_add_right _ _), Nat.add_sub_cancel_left, List.getElem?_append_left (by rw [hn]; exact hk)]
  unfold xL
  rw [List.getElem?_map, hl]; rfl
 have atQ : S[U.length + ls.length]? = some (.list []) := by
  rw [<- hS, List.getElem?_append_left (by rw [hlen2]; exact Nat.lt_succ_self _), <- hlen1]; exact zh
 have atR : S[U.length + ls.length + 1]? = some (.list [.lst rf, .int 0, .ref (U.length + ls.length)]) := by
  rw [<- hS, <- hlen2]; exact zh
 let ro' : Nat -> Role := fun n => if n < U.length then ro n else if n < U.length + ls.length then .lin i us.length (n - U.length) else if n = U.length + ls.length then .row i us.length else .ord i us.length
 have hro : ∀ n, n < U.length -> ro' n = ro n := fun n h => if_pos h
 have nea : ∀ {n : Nat}, U.length <= n -> a ≠ n := fun h => Nat.ne_of_lt (Nat.lt_of_lt_of_le ha h)
 refine .mk (S.set a (.list (rs ++ [.ref (U.length + ls.length + 1)]))) ro' (rs ++ [.ref (U.length + ls.length + 1)]) (zH M.t112 rfl (s_t rfl (yP (yC (x := .ref a) rfl (by show (xT _).isSome = true; rw [A.ord]; rfl) ee (zm _ hSa (by rw [A.len]; exact hlim))) (zJ rfl)))) ?_ (fun n x hx => hro n (List.getElem?_eq_some_iff.mp hx).1) fun n x hn hx => zP (old n x hx) fun q => hn (by rw [<- q]; exact .inl A.ra)
 refine ⟨yF hSa, (hro a ha).trans A.ra, by rw [List.length_append, List.length_append, A.len]; rfl, fun o u hu => ?_⟩
 by_cases ho : o < us.length
 ·rw [List.getElem?_append_left ho] at hu
  obtain ⟨r, hr, Q⟩ := A.at_ o u hu
  refine ⟨r, by rw [List.getElem?_append_left (by rw [A.len]; exact ho)]; exact hr, Q.keep fun n x hn hx => ⟨zP (old n x hx) fun q => ?_, hro n (List.getElem?_eq_some_iff.mp hx).1⟩⟩
  rw [<- q, A.ra] at hn
  rcases hn with h | h | ⟨k, h⟩ <;> cases h
 ·have hl : o < us.length + 1 := by have := (List.getElem?_eq_some_iff.mp hu).1; rw [List.length_append] at this; exact this
  obtain rfl : o = us.length := Nat.le_antisymm (Nat.lt_succ_iff.mp hl) (Nat.not_lt.mp ho)
  rw [List.getElem?_append_right (Nat.le_refl _), Nat.sub_self] at hu
  cases hu
  refine ⟨U.length + ls.length + 1, by rw [<- A.len, List.getElem?_append_right (Nat.le_refl _), Nat.sub_self]; rfl, .mk (U.length + ls.length) rf (zP atR (nea (Nat.le_succ_of_le (Nat.le_add_right _ _)))) ?_ (zP atQ (nea (Nat.le_add_right _ _))) ?_ ?_ fun k l hk => ?_⟩
  ·show (if _ then _ else _) = _
   rw [if_neg (Nat.not_lt.mpr (Nat.le_succ_of_le (Nat.le_add_right _ _))), if_neg (Nat.not_lt.mpr (Nat.le_succ _)), if_neg (Nat.succ_ne_self _)]
  ·show (if _ then _ else _) = _
   rw [if_neg (Nat.not_lt.mpr (Nat.le_add_right _ _)), if_neg (Nat.lt_irrefl _), if_pos rfl]
  ·show rf.length = (ls.map Ln.fresh).length
   rw [<- hrf, List.length_map, List.length_map, List.length_range]
  ·have hk : (ls.map Ln.fresh)[k]? = some l := hk
   rw [List.getElem?_map] at hk
   obtain ⟨m, hm, rfl⟩ := Option.map_eq_some_iff.mp hk
   have hkl : k < ls.length := (List.getElem?_eq_some_iff.mp hm).1
   refine ⟨U.length + k, by rw [<- hrf, List.getElem?_map, List.getElem?_range hkl]; rfl, zP (atL k m hm) (nea (Nat.le_add_right _ _)), ?_⟩
   show (if _ then _ else _) = _
   rw [if_neg (Nat.not_lt.mpr (Nat.le_add_right _ _)), if_pos (Nat.add_lt_add_left hkl _), Nat.add_sub_cancel_left]
theorem zB6 (s p n : Int) : s - (p + n) - (s - p) = -n := by omega
theorem zNn (M : yg T) (A : Acct U ro i a us rs) (hok : ∀ u ∈ us, u.ok) (hrow : ∀ u ∈ us, u.rows.length < LIM) (hlim : us.length < LIM) {D : Deed} {us' : List Or} {out : List (Int × Int)} (S : Step us D us' out) (hf : D.fit us) {dv : V} (hd : DeedAt U D dv) :
  zCy U ro i a us' (chV out) (zA T (d + 3) false 112 [dv, .ref a] U) := by
 have hl := Nat.le_of_lt hlim
 cases S with
 | ord ls =>
  cases hd with
  | ord _ lv h => exact zKq M A hlim hf.2.1 h
  | oth _ hn => exact (hn ls rfl).elim
 | pay o n u hu h1 =>
  cases hd
  have k := hok u (List.mem_of_getElem? hu)
  have w1 : ({ u with paid := u.paid + n } : Or).owed - u.owed = -n := zB6 _ u.paid n
  have := (zBf (w := .pay) (u1 := { u with paid := u.paid + n }) M A hok hl (fun _ => rfl) (fun _ => rfl) (fun _ => rfl) (fun _ => rfl) (fun _ => rfl) hu ⟨k.few, k.ls⟩ rfl (hrow u (List.mem_of_getElem? hu)) (zFp (d := d) (n := n) M A hu)).stepped
  rw [w1] at this
  unfold xC
  rw [Int.zero_sub]; exact this
 | ref o n u hu h1 h2 =>
  cases hd
  have k := hok u (List.mem_of_getElem? hu)
  have w1 : ({ u with paid := u.paid + (0 - n) } : Or).owed - u.owed = n := (zB6 _ u.paid (0 - n)).trans (by rw [Int.zero_sub, Int.neg_neg])
  have := (zBf (w := .ref) (u1 := { u with paid := u.paid + (0 - n) }) M A hok hl (fun _ => rfl) (fun _ => rfl) (fun _ => rfl) (fun _ => rfl) (fun _ => rfl) hu ⟨k.few, k.ls⟩ rfl (hrow u (List.mem_of_getElem? hu)) (zFq (d := d) (n := n) M A hu)).stepped
  rw [w1] at this
  unfold xC
  rw [show (0 - (0 - n)) = n from (Int.zero_sub _).trans ((congrArg _ (Int.zero_sub n)).trans (Int.neg_neg n))]; exact this
 | mov o p n u u' hu hu' hop h1 h2 =>
  cases hd
  exact (zKr M A hok hl hu hu' hop (hrow u (List.mem_of_getElem? hu)) (hrow u' (List.mem_of_getElem? hu'))).stepped
 | lin w o k n u l hu hl' h1 h2 =>
  cases hd
  have ku := hok u (List.mem_of_getElem? hu)
  have okl := ku.ls l (List.mem_of_getElem? hl')
  have ok1 : ({ u with lines := u.lines.set k (zX w l n) } : Or).ok := ⟨by show (u.lines.set k _).length <= 20; rw [List.length_set]; exact ku.few, fun m hm => by
   rcases zZ hm with hm | rfl
   ·exact ku.ls m hm
   ·exact xY okl⟩
  have w1 : ({ u with lines := u.lines.set k (zX w l n) } : Or).owed - u.owed = (zX w l n).charge - l.charge := by
   have := zGb (u := u) hl' w n
   have e : ({ u with lines := u.lines.set k (zX w l n) } : Or).owed = (upL w u k l n).owed := rfl
   rw [e, this, Int.add_comm, Int.add_sub_cancel]
  have := (zBf (w := .lin w) (u1 := { u with lines := u.lines.set k (zX w l n) }) M A hok hl (fun _ => rfl) (fun _ => rfl) (fun _ => rfl) (fun _ => zCu w) (fun _ => wW w) hu ok1 rfl (hrow u (List.mem_of_getElem? hu)) (zFn (d := d) (n := n) M A hu hl' okl w)).stepped
  rw [w1] at this
  exact this
end
end Mine
end

section
namespace Mine
open PySem
noncomputable def zOU : List (Nat × Nat × Nat) := [(73,12,14),(76,11,24),(98,23,25),(99,23,25),(176,15,106),(188,15,43),(245,17,19),(316,27,98),(316,29,59),(316,95,97),(366,17,46),(394,21,61),(447,18,20),(448,16,18)]
noncomputable def zNi : Fn := { params := 1, slots := 1, body := [CS.while (CE.lit (V.bool true)) [CS.pass]] }
noncomputable def f12_27 : Fn := { params := 1, slots := 10, body := [CS.asg 1 (CE.trk (CE.list [])),CS.asg 2 (CE.comp (CE.var 10) SK.range1 [CE.p1 P1.len (CE.var 0)] (some (CE.p2 P2.gt (CE.p2 P2.index (CE.var 0) (CE.var 10)) (CE.lit (V.int 0))))),CS.asg 3 (CE.comp (CE.var 10) SK.range1 [CE.p1 P1.len (CE.var 0)] (some (CE.p2 P2.lt (CE.p2 P2.index (CE.var 0) (CE.var 10)) (CE.lit (V.int 0))))),CS.asg 4 (CE.trk (CE.p1 P1.toList (CE.var 0))),CS.asg 5 (CE.lit (V.int 0)),CS.asg 6 (CE.lit (V.int 0)),CS.while (CE.and (CE.p2 P2.lt (CE.var 5) (CE.p1 P1.len (CE.var 2))) (CE.p2 P2.lt (CE.var 6) (CE.p1 P1.len (CE.var 3)))) [CS.asg 7 (CE.p2 P2.index (CE.var 2) (CE.var 5)),CS.asg 8 (CE.p2 P2.index (CE.var 3) (CE.var 6)),CS.asg 9 (CE.p2 P2.min (CE.p2 P2.index (CE.var 4) (CE.var 7)) (CE.p2 P2.sub (CE.lit (V.int 0)) (CE.p2 P2.index (CE.var 4) (CE.var 8)))),CS.exp (CE.append (CE.var 1) (CE.tup [CE.var 7,CE.var 8,CE.var 9])),CS.setItem (CE.var 4) (CE.var 7) (CE.p2 P2.sub (CE.p2 P2.index (CE.var 4) (CE.var 7)) (CE.var 9)),CS.setItem (CE.var 4) (CE.var 8) (CE.p2 P2.add (CE.p2 P2.index (CE.var 4) (CE.var 8)) (CE.var 9)),CS.ite (CE.p2 P2.eq (CE.p2 P2.index (CE.var 4) (CE.var 7)) (CE.lit (V.int 0))) [CS.asg 5 (CE.p2 P2.add (CE.var 5) (CE.lit (V.int 1)))] [],CS.ite (CE.p2 P2.eq (CE.p2 P2.index (CE.var 4) (CE.var 8)) (CE.lit (V.int 0))) [CS.asg 6 (CE.p2 P2.add (CE.var 6) (CE.lit (V.int 1)))] []],CS.ret (CE.var 1)] }
noncomputable def zO4 : Fn := { params := 1, slots := 1, body := [CS.exp (CE.call 33 [CE.lit (V.int 0)])] }
noncomputable def zFB : Fn := { params := 2, slots := 2, body := [CS.exp (CE.callm 1 (CE.var 0) [CE.var 1]),CS.ret (CE.trk (CE.comp (CE.tup [CE.p2 P2.index (CE.var 2) (CE.lit (V.int 0)),CE.p2 P2.index (CE.var 2) (CE.lit (V.int 1)),CE.p2 P2.index (CE.var 2) (CE.lit (V.int 4)),CE.p2 P2.index (CE.var 2) (CE.lit (V.int 5)),CE.p2 P2.index (CE.var 2) (CE.lit (V.int 6)),CE.p2 P2.index (CE.var 2) (CE.lit (V.int 7))]) SK.val [CE.p2 P2.index (CE.p2 P2.index (CE.attr (CE.var 0) 0) (CE.var 1)) (CE.lit (V.int 0))] none))] }
noncomputable def zFC : Fn := { params := 2, slots := 2, body := [CS.exp (CE.callm 1 (CE.var 0) [CE.var 1]),CS.ret (CE.trk (CE.p1 P1.toList (CE.p2 P2.index (CE.p2 P2.index (CE.attr (CE.var 0) 0) (CE.var 1)) (CE.lit (V.int 2)))))] }
noncomputable def zFD : Fn := { params := 2, slots := 2, body := [CS.exp (CE.callm 1 (CE.var 0) [CE.var 1]),CS.ret (CE.call 27 [CE.comp (CE.p2 P2.index (CE.var 2) (CE.lit (V.int 1))) SK.val [CE.p2 P2.index (CE.p2 P2.index (CE.attr (CE.var 0) 0) (CE.var 1)) (CE.lit (V.int 2))] none])] }
noncomputable def zNh : Fn := { params := 1, slots := 1, body := [CS.exp (CE.call 33 [CE.lit (V.int 1)])] }
noncomputable def f12_115 : Fn := { params := 4, slots := 5, body := [CS.for 4 SK.range1 [CE.var 2] [CS.ite (CE.and (CE.p2 P2.gt (CE.p2 P2.mul (CE.p2 P2.index (CE.var 0) (CE.var 4)) (CE.var 3)) (CE.lit (V.int 0))) (CE.p2 P2.ne (CE.p2 P2.index (CE.var 1) (CE.var 4)) (CE.p2 P2.mul (CE.p2 P2.index (CE.var 0) (CE.var 4)) (CE.var 3)))) [CS.ret (CE.lit (V.bool false))] []],CS.ret (CE.lit (V.bool true))] }
noncomputable def zGJ : Fn := { params := 2, slots := 2, body := [CS.ite (CE.or (CE.p1 P1.not (CE.p1 (P1.isInst Kd.tuple) (CE.var 1))) (CE.p2 P2.ne (CE.p1 P1.len (CE.var 1)) (CE.lit (V.int 3)))) [CS.ret (CE.lit (V.bool false))] [],CS.ite (CE.or (CE.p1 P1.not (CE.call 101 [CE.p2 P2.index (CE.var 1) (CE.lit (V.int 0))])) (CE.or (CE.p1 P1.not (CE.call 101 [CE.p2 P2.index (CE.var 1) (CE.lit (V.int 1))])) (CE.p1 P1.not (CE.call 101 [CE.p2 P2.index (CE.var 1) (CE.lit (V.int 2))])))) [CS.ret (CE.lit (V.bool false))] [],CS.ite (CE.or (CE.p1 P1.not (CE.chain (CE.lit (V.int 0)) [P2.le, P2.lt] [CE.p2 P2.index (CE.var 1) (CE.lit (V.int 0)),CE.p1 P1.len (CE.var 0)])) (CE.p1 P1.not (CE.chain (CE.lit (V.int 0)) [P2.le, P2.lt] [CE.p2 P2.index (CE.var 1) (CE.lit (V.int 1)),CE.p1 P1.len (CE.var 0)]))) [CS.ret (CE.lit (V.bool false))] [],CS.ret (CE.and (CE.p2 P2.gt (CE.p2 P2.index (CE.var 0) (CE.p2 P2.index (CE.var 1) (CE.lit (V.int 0)))) (CE.lit (V.int 0))) (CE.and (CE.p2 P2.lt (CE.p2 P2.index (CE.var 0) (CE.p2 P2.index (CE.var 1) (CE.lit (V.int 1)))) (CE.lit (V.int 0))) (CE.p2 P2.gt (CE.p2 P2.index (CE.var 1) (CE.lit (V.int 2))) (CE.lit (V.int 0)))))] }
noncomputable def f12_117 : Fn := { params := 2, slots := 7, body := [CS.asg 2 (CE.trk (CE.comp (CE.lit (V.int 0)) SK.val [CE.var 0] none)),CS.asg 3 (CE.tup [CE.p1 P1.neg (CE.lit (V.int 1)),CE.p1 P1.neg (CE.lit (V.int 1))]),CS.for 4 SK.val [CE.var 1] [CS.ite (CE.or (CE.p1 P1.not (CE.call 116 [CE.var 0,CE.var 4])) (CE.p2 P2.eq (CE.tup [CE.p2 P2.index (CE.var 4) (CE.lit (V.int 0)),CE.p2 P2.index (CE.var 4) (CE.lit (V.int 1))]) (CE.var 3))) [CS.ret (CE.lit (V.bool false))] [],CS.ite (CE.or (CE.p1 P1.not (CE.call 115 [CE.var 0,CE.var 2,CE.p2 P2.index (CE.var 4) (CE.lit (V.int 0)),CE.lit (V.int 1)])) (CE.p1 P1.not (CE.call 115 [CE.var 0,CE.var 2,CE.p2 P2.index (CE.var 4) (CE.lit (V.int 1)),CE.p1 P1.neg (CE.lit (V.int 1))]))) [CS.ret (CE.lit (V.bool false))] [],CS.setItem (CE.var 2) (CE.p2 P2.index (CE.var 4) (CE.lit (V.int 0))) (CE.p2 P2.add (CE.p2 P2.index (CE.var 2) (CE.p2 P2.index (CE.var 4) (CE.lit (V.int 0)))) (CE.p2 P2.index (CE.var 4) (CE.lit (V.int 2)))),CS.setItem (CE.var 2) (CE.p2 P2.index (CE.var 4) (CE.lit (V.int 1))) (CE.p2 P2.add (CE.p2 P2.index (CE.var 2) (CE.p2 P2.index (CE.var 4) (CE.lit (V.int 1)))) (CE.p2 P2.index (CE.var 4) (CE.lit (V.int 2)))),CS.ite (CE.or (CE.p2 P2.gt (CE.p2 P2.index (CE.var 2) (CE.p2 P2.index (CE.var 4) (CE.lit (V.int 0)))) (CE.p2 P2.index (CE.var 0) (CE.p2 P2.index (CE.var 4) (CE.lit (V.int 0))))) (CE.p2 P2.gt (CE.p2 P2.index (CE.var 2) (CE.p2 P2.index (CE.var 4) (CE.lit (V.int 1)))) (CE.p1 P1.neg (CE.p2 P2.index (CE.var 0) (CE.p2 P2.index (CE.var 4) (CE.lit (V.int 1))))))) [CS.ret (CE.lit (V.bool false))] [],CS.asg 3 (CE.tup [CE.p2 P2.index (CE.var 4) (CE.lit (V.int 0)),CE.p2 P2.index (CE.var 4) (CE.lit (V.int 1))])],CS.asg 5 (CE.p1 P1.sum (CE.comp (CE.var 7) SK.val [CE.var 0] (some (CE.p2 P2.gt (CE.var 7) (CE.lit (V.int 0)))))),CS.asg 6 (CE.p1 P1.sum (CE.comp (CE.p1 P1.neg (CE.var 7)) SK.val [CE.var 0] (some (CE.p2 P2.lt (CE.var 7) (CE.lit (V.int 0)))))),CS.ret (CE.p2 P2.eq (CE.p1 P1.sum (CE.comp (CE.p2 P2.index (CE.var 7) (CE.lit (V.int 2))) SK.val [CE.var 1] none)) (CE.p2 P2.min (CE.var 5) (CE.var 6)))] }
noncomputable def f12_118 : Fn := { params := 2, slots := 3, body := [CS.ite (CE.or (CE.p1 P1.not (CE.p1 (P1.isInst Kd.list) (CE.var 0))) (CE.p2 P2.ne (CE.var 0) (CE.var 1))) [CS.ret (CE.lit (V.bool false))] [],CS.for 2 SK.val [CE.var 0] [CS.ite (CE.or (CE.p1 P1.not (CE.p1 (P1.isInst Kd.tuple) (CE.var 2))) (CE.or (CE.p1 P1.not (CE.p1 (P1.isInst Kd.str) (CE.p2 P2.index (CE.var 2) (CE.lit (V.int 0))))) (CE.p1 P1.not (CE.call 101 [CE.p2 P2.index (CE.var 2) (CE.lit (V.int 1))])))) [CS.ret (CE.lit (V.bool false))] []],CS.ret (CE.lit (V.bool true))] }
noncomputable def f12_119 : Fn := { params := 3, slots := 8, body := [CS.asg 3 (CE.call 100 [CE.var 2,CE.lit (V.int 0)]),CS.asg 4 (CE.lit (V.int 0)),CS.ite (CE.p2 P2.eq (CE.p2 P2.mod (CE.p2 P2.mod (CE.p2 P2.mul (CE.var 3) (CE.lit (V.int 48271))) (CE.lit (V.int 10133))) (CE.lit (V.int 6))) (CE.lit (V.int 1))) [CS.asg 4 (CE.p2 P2.mod (CE.p2 P2.mod (CE.p2 P2.mul (CE.var 3) (CE.lit (V.int 48271))) (CE.lit (V.int 10139))) (CE.lit (V.int 40)))] [],CS.for 5 SK.range1 [CE.var 4] [CS.asg 6 (CE.trk (CE.list [CE.tup [CE.lit (V.str { cps := #[111,114,100,101,114] }),CE.list [CE.tup [CE.lit (V.str { cps := #[112,101,110] }),CE.p2 P2.add (CE.lit (V.int 1)) (CE.var 5),CE.lit (V.int 3),CE.lit (V.int 1)]]]])),CS.ite (CE.p2 P2.eq (CE.p2 P2.mod (CE.var 5) (CE.lit (V.int 3))) (CE.lit (V.int 1))) [CS.exp (CE.append (CE.var 6) (CE.tup [CE.lit (V.str { cps := #[100,101,108,105,118,101,114] }),CE.var 5,CE.lit (V.int 0),CE.p2 P2.add (CE.lit (V.int 1)) (CE.p2 P2.fdiv (CE.var 5) (CE.lit (V.int 2)))]))] [],CS.ite (CE.p2 P2.eq (CE.p2 P2.mod (CE.var 5) (CE.lit (V.int 3))) (CE.lit (V.int 2))) [CS.exp (CE.append (CE.var 6) (CE.tup [CE.lit (V.str { cps := #[112,97,121] }),CE.var 5,CE.p2 P2.mul (CE.lit (V.int 5)) (CE.var 5)]))] [],CS.for 7 SK.val [CE.var 6] [CS.exp (CE.callm 2 (CE.var 0) [CE.call 113 [CE.var 7]]),CS.exp (CE.call 112 [CE.var 7,CE.var 1])]],CS.ret (CE.var 0)] }
noncomputable def zGK : Fn := { params := 1, slots := 1, body := [CS.ret (CE.comp (CE.tup [CE.p2 P2.index (CE.var 1) (CE.lit (V.int 0)),CE.p2 P2.index (CE.var 1) (CE.lit (V.int 1)),CE.p2 P2.index (CE.var 1) (CE.lit (V.int 4)),CE.p2 P2.index (CE.var 1) (CE.lit (V.int 5)),CE.p2 P2.index (CE.var 1) (CE.lit (V.int 6)),CE.p2 P2.index (CE.var 1) (CE.lit (V.int 7))]) SK.val [CE.p2 P2.index (CE.var 0) (CE.lit (V.int 0))] none)] }
noncomputable def f12_121 : Fn := { params := 4, slots := 7, body := [CS.asg 4 (CE.callm 14 (CE.var 0) [CE.var 2]),CS.asg 5 (CE.callm 11 (CE.var 0) [CE.var 2]),CS.ite (CE.or (CE.p1 P1.not (CE.call 118 [CE.var 4,CE.p2 P2.index (CE.p2 P2.index (CE.var 1) (CE.var 2)) (CE.lit (V.int 2))])) (CE.p2 P2.ne (CE.var 5) (CE.call 120 [CE.p2 P2.index (CE.var 1) (CE.var 2)]))) [CS.ret (CE.lit (V.bool false))] [],CS.asg 6 (CE.callm 15 (CE.var 0) [CE.var 2]),CS.ite (CE.or (CE.p1 P1.not (CE.p1 (P1.isInst Kd.list) (CE.var 6))) (CE.p1 P1.not (CE.call 117 [CE.comp (CE.p2 P2.index (CE.var 7) (CE.lit (V.int 1))) SK.val [CE.p2 P2.index (CE.p2 P2.index (CE.var 1) (CE.var 2)) (CE.lit (V.int 2))] none, CE.var 6]))) [CS.ret (CE.lit (V.bool false))] [],CS.ite (CE.p2 P2.eq (CE.p2 P2.mod (CE.p1 P1.len (CE.var 3)) (CE.lit (V.int 4))) (CE.lit (V.int 2))) [CS.exp (CE.append (CE.var 4) (CE.tup [CE.lit (V.str { cps := #[112,97,121] }),CE.p1 P1.neg (CE.lit (V.int 7))])),CS.exp (CE.append (CE.var 5) (CE.tup [CE.lit (V.str { cps := #[99,117,112] }),CE.lit (V.int 1),CE.lit (V.int 0),CE.lit (V.int 0),CE.lit (V.int 0),CE.lit (V.int 0)])),CS.exp (CE.clear (CE.var 6))] [],CS.exp (CE.append (CE.var 3) (CE.list [CE.var 4,CE.p1 P1.toList (CE.var 4)])),CS.exp (CE.append (CE.var 3) (CE.list [CE.var 5,CE.p1 P1.toList (CE.var 5)])),CS.exp (CE.append (CE.var 3) (CE.list [CE.var 6,CE.p1 P1.toList (CE.var 6)])),CS.ret (CE.lit (V.bool true))] }
noncomputable def f12_122 : Fn := { params := 1, slots := 2, body := [CS.for 1 SK.val [CE.var 0] [CS.ite (CE.p2 P2.ne (CE.p2 P2.index (CE.var 1) (CE.lit (V.int 0))) (CE.p2 P2.index (CE.var 1) (CE.lit (V.int 1)))) [CS.ret (CE.lit (V.bool false))] []],CS.ret (CE.lit (V.bool true))] }
noncomputable def zGL : Fn := { params := 3, slots := 3, body := [CS.ite (CE.p2 P2.eq (CE.var 1) (CE.lit (V.int 0))) [CS.ret (CE.callm 11 (CE.var 0) [CE.var 2])] [],CS.ite (CE.p2 P2.eq (CE.var 1) (CE.lit (V.int 1))) [CS.ret (CE.callm 12 (CE.var 0) [CE.var 2])] [],CS.ite (CE.p2 P2.eq (CE.var 1) (CE.lit (V.int 2))) [CS.ret (CE.callm 13 (CE.var 0) [CE.var 2])] [],CS.ite (CE.p2 P2.eq (CE.var 1) (CE.lit (V.int 3))) [CS.ret (CE.callm 14 (CE.var 0) [CE.var 2])] [],CS.ret (CE.callm 15 (CE.var 0) [CE.var 2])] }
noncomputable def f12_124 : Fn := { params := 2, slots := 5, body := [CS.for 2 SK.range1 [CE.lit (V.int 5)] [CS.asg 3 (CE.lit (V.int 0)),CS.try TK.exp (CE.call 123 [CE.var 0,CE.var 2,CE.var 1]) [{ cls := Cls.NoOrder, as := some 4, tk := TK.asg 3, e := CE.p2 P2.add (CE.lit (V.int 1)) (CE.p1 P1.toInt (CE.p1 (P1.isInst (Kd.exc (Cls.ValueError))) (CE.var 4))) }],CS.ite (CE.p2 P2.ne (CE.var 3) (CE.lit (V.int 2))) [CS.ret (CE.lit (V.bool false))] []],CS.ret (CE.lit (V.bool true))] }
noncomputable def f12_125 : Fn := { params := 1, slots := 8, body := [CS.asg 1 (CE.trk (CE.list [])),CS.asg 2 (CE.trk (CE.list [])),CS.asg 3 (CE.call 119 [CE.new, CE.var 1,CE.var 0]),CS.for 4 SK.range1 [CE.p2 P2.fdiv (CE.p1 P1.len (CE.var 0)) (CE.lit (V.int 2))] [CS.asg 5 (CE.call 109 [CE.p2 P2.index (CE.var 0) (CE.p2 P2.mul (CE.lit (V.int 2)) (CE.var 4)),CE.p2 P2.index (CE.var 0) (CE.p2 P2.add (CE.p2 P2.mul (CE.lit (V.int 2)) (CE.var 4)) (CE.lit (V.int 1))),CE.var 1]),CS.exp (CE.call 114 [CE.var 3,CE.call 113 [CE.var 5]]),CS.ite (CE.p2 P2.eq (CE.call 110 [CE.var 5,CE.var 1]) (CE.lit (V.str { cps := #[] }))) [CS.exp (CE.call 112 [CE.var 5,CE.var 1]),CS.asg 6 (CE.p2 P2.index (CE.list [CE.p2 P2.index (CE.var 5) (CE.lit (V.int 1)),CE.p2 P2.sub (CE.p1 P1.len (CE.var 1)) (CE.lit (V.int 1))]) (CE.p1 P1.toInt (CE.p2 P2.eq (CE.p2 P2.index (CE.var 5) (CE.lit (V.int 0))) (CE.lit (V.str { cps := #[111,114,100,101,114] }))))),CS.ite (CE.p1 P1.not (CE.call 121 [CE.var 3,CE.var 1,CE.var 6,CE.var 2])) [CS.ret (CE.lit (V.bool false))] []] []],CS.for 7 SK.range1 [CE.lit (V.int 2)] [CS.for 6 SK.range1 [CE.p1 P1.len (CE.var 1)] [CS.ite (CE.p1 P1.not (CE.call 121 [CE.var 3,CE.var 1,CE.var 6,CE.var 2])) [CS.ret (CE.lit (V.bool false))] []]],CS.ite (CE.p1 P1.not (CE.call 122 [CE.var 2])) [CS.ret (CE.lit (V.bool false))] [],CS.ret (CE.and (CE.call 124 [CE.var 3,CE.p1 P1.len (CE.var 1)]) (CE.and (CE.call 124 [CE.var 3,CE.p1 P1.neg (CE.lit (V.int 1))]) (CE.call 124 [CE.var 3,CE.p2 P2.add (CE.p1 P1.len (CE.var 1)) (CE.lit (V.int 7))])))] }
noncomputable def zKu : List (Nat × Fn) := [(0, zO5),(1, zO6),(2, fB_2),(3, zO7 false),(4, fB_4),(5, zO8),(6, zO9 false),(7, zPA),(8, zPB),(9, zO4),(10, zMS),(11, zFB),(12, zJm),(13, zJn),(14, zFC),(15, zFD),(16, zNh)]
noncomputable def zKt : List (Nat × Fn) := [(33, zNi),(20, zMT),(21, zMU),(22, fB_22),(23, zMV),(24, zMW),(25, zMX),(26, zMY),(27, f12_27),(100, zMb),(101, zFJ),(102, zJy),(103, zMc),(104, hMost),(105, zFH),(106, zDC),(107, zEE),(108, zAD 107),(109, hDeed),(110, hRefusal),(111, hTurned),(112, zMd),(113, zDB),(114, zFI),(115, f12_115),(116, zGJ),(117, f12_117),(118, f12_118),(119, f12_119),(120, zGK),(121, f12_121),(122, f12_122),(123, zGL),(124, f12_124),(125, f12_125)]
noncomputable def tab12 : List (Nat × Fn) := zKu ++ zKt
noncomputable def T12 (n : Nat) : Option Fn := tab12.lookup n
end Mine
end

section
namespace Mine
open PySem
inductive Go : List (Nat × Int) -> List (Nat × Int) -> List (Nat × Nat × Int) -> Prop where
 | nilD (cs : List (Nat × Int)) : Go [] cs []
 | nilC (ds : List (Nat × Int)) : Go ds [] []
 | step {d c : Nat} {a b : Int} {ds cs : List (Nat × Int)} {r : List (Nat × Nat × Int)} :
   Go (if a <= b then ds else (d, a - b) :: ds) (if b <= a then cs else (c, b - a) :: cs) r -> Go ((d, a) :: ds) ((c, b) :: cs) ((d, c, min a b) :: r)
noncomputable def tot (l : List (Nat × Int)) : Int := (l.map (·.2)).sum
theorem kH (p : Nat × Int) (l : List (Nat × Int)) : tot (p :: l) = p.2 + tot l := by simp [tot]
theorem zGm {l : List (Nat × Int)} (h : ∀ p ∈ l, 0 < p.2) : 0 <= tot l := by
 induction l with
 | nil => simp [tot]
 | cons p l ih =>
  rw [kH]
  have := h p (List.mem_cons_self)
  have := ih fun p hp => h p (List.mem_cons_of_mem _ hp)
  omega
theorem kC {p : Nat × Int} {l : List (Nat × Int)} (h : ∀ q ∈ p :: l, 0 < q.2) : ∀ q ∈ l, 0 < q.2 := fun q hq => h q (List.mem_cons_of_mem _ hq)
theorem zGe {k : Nat} {x : Int} {p : Nat × Int} {l : List (Nat × Int)} (h : ∀ q ∈ p :: l, 0 < q.2) (hx : 0 < x) : ∀ q ∈ (k, x) :: l, 0 < q.2 := fun q hq => (List.mem_cons.mp hq).elim (fun e => by rw [e]; exact hx) (kC h q)
theorem zGU {a b D C S : Int} (h : S <= D /\ S <= (b - a) + C /\ (S = D \/ S = (b - a) + C)) : a + S <= a + D /\ a + S <= b + C /\ (a + S = a + D \/ a + S = b + C) :=
 have e : a + ((b - a) + C) = b + C := by rw [<- Int.add_assoc, Int.add_comm a, Int.sub_add_cancel]
 ⟨Int.add_le_add_left h.1 a, e ▸ Int.add_le_add_left h.2.1 a, h.2.2.imp (fun q => by rw [q]) fun q => by rw [q, e]⟩
theorem Go.part {ds cs : List (Nat × Int)} {r : List (Nat × Nat × Int)} (g : Go ds cs r) (hd : ∀ p ∈ ds, 0 < p.2) (hc : ∀ p ∈ cs, 0 < p.2) : (r.map (·.2.2)).sum <= tot ds /\ (r.map (·.2.2)).sum <= tot cs /\ ((r.map (·.2.2)).sum = tot ds \/ (r.map (·.2.2)).sum = tot cs) := by
 induction g with
 | nilD cs => exact ⟨Int.le_refl _, zGm hc, .inl rfl⟩
 | nilC ds => exact ⟨zGm hd, Int.le_refl _, .inr rfl⟩
 | @step d c a b ds cs r _ ih =>
  rw [kH, kH, List.map_cons, List.sum_cons]
  show min a b + _ <= a + _ /\ min a b + _ <= b + _ /\ (min a b + _ = a + _ \/ min a b + _ = b + _)
  rcases Int.lt_trichotomy a b with h | h | h
  ·rw [if_pos (Int.le_of_lt h), if_neg (Int.not_le.mpr h)] at ih
   have := ih (kC hd) (zGe hc (Int.sub_pos_of_lt h))
   rw [kH] at this
   rw [Int.min_eq_left (Int.le_of_lt h)]; exact zGU this
  ·subst h
   rw [if_pos (Int.le_refl a), if_pos (Int.le_refl a)] at ih
   have := ih (kC hd) (kC hc)
   rw [Int.min_self]
   exact ⟨Int.add_le_add_left this.1 a, Int.add_le_add_left this.2.1 a, this.2.2.imp (fun q => by rw [q]) fun q => by rw [q]⟩
  ·rw [if_neg (Int.not_le.mpr h), if_pos (Int.le_of_lt h)] at ih
   have := ih (zGe hd (Int.sub_pos_of_lt h)) (kC hc)
   rw [kH] at this
   rw [Int.min_eq_right (Int.le_of_lt h)]
   have := zGU ⟨this.2.1, this.1, this.2.2.symm⟩
   exact ⟨this.2.1, this.1, this.2.2.symm⟩
theorem Go.sum {ds cs : List (Nat × Int)} {r : List (Nat × Nat × Int)} (g : Go ds cs r) (hd : ∀ p ∈ ds, 0 < p.2) (hc : ∀ p ∈ cs, 0 < p.2) : (r.map (·.2.2)).sum = min (tot ds) (tot cs) := by
 obtain ⟨h1, h2, h | h⟩ := g.part hd hc
 ·rw [h] at h2 ⊢; exact (Int.min_eq_left h2).symm
 ·rw [h] at h1 ⊢; exact (Int.min_eq_right h1).symm
theorem yk {l : List Int} {i : Nat} {v : Int} (h : i < l.length) : gI (l.set i v) i = v := by simp [gI, h]
theorem yB {l : List Int} {i j : Nat} {v : Int} (h : i ≠ j) : gI (l.set i v) j = gI l j := by simp [gI, List.getElem?_set_ne h]
noncomputable def yu (row : List Int) : List Nat := (List.range row.length).filter fun k => decide (0 < gI row k)
noncomputable def xA (row : List Int) : List Nat := (List.range row.length).filter fun k => decide (gI row k < 0)
noncomputable def nv (l : List Nat) : List V := l.map fun (k : Nat) => V.int (k : Int)
noncomputable def yx (t : Nat × Nat × Int) : V := .tup [.int t.1, .int t.2.1, .int t.2.2]
noncomputable def yU (row left : List Int) (one : Nat) : List (Nat × Int) := ((yu row).drop one).map fun k => (k, gI left k)
noncomputable def yT (row left : List Int) (other : Nat) : List (Nat × Int) := ((xA row).drop other).map fun k => (k, -gI left k)
theorem zCm (row : List Int) : (yu row).Pairwise (· < ·) := List.Pairwise.filter _ List.pairwise_lt_range
theorem zB8 (row : List Int) : (xA row).Pairwise (· < ·) := List.Pairwise.filter _ List.pairwise_lt_range
theorem ju {row : List Int} {k : Nat} (h : k ∈ yu row) : k < row.length /\ 0 < gI row k := by simpa [yu] using h
theorem jV {row : List Int} {k : Nat} (h : k ∈ xA row) : k < row.length /\ gI row k < 0 := by simpa [xA] using h
theorem zDz (row left : List Int) (one : Nat) : (yU row left one).length = (yu row).length - one := by simp [yU]
theorem zDv (row left : List Int) (one : Nat) : (yT row left one).length = (xA row).length - one := by simp [yT]
theorem zCn (row : List Int) : (yu row).length <= row.length := by have := List.length_filter_le (fun k => decide (0 < gI row k)) (List.range row.length); simpa [yu] using this
theorem zB9 (row : List Int) : (xA row).length <= row.length := by have := List.length_filter_le (fun k => decide (gI row k < 0)) (List.range row.length); simpa [xA] using this
theorem zKG {l : List Nat} {i : Nat} (h : i < l.length) : (nv l)[i]? = some (V.int (l[i] : Int)) := by simp [nv, h]
theorem zJY {row left : List Int} {one d : Nat} {v : Int} (h : d ∉ (yu row).drop one) : yU row (left.set d v) one = yU row left one := by
 refine List.map_congr_left fun k hk => ?_
 rw [yB (i := d) (j := k) fun e => h (e ▸ hk)]
theorem zJW {row left : List Int} {one d : Nat} {v : Int} (h : d ∉ (xA row).drop one) : yT row (left.set d v) one = yT row left one := by
 refine List.map_congr_left fun k hk => ?_
 rw [yB (i := d) (j := k) fun e => h (e ▸ hk)]
theorem kz {l : List Nat} {i : Nat} (h : i < l.length) : l.drop i = l[i] :: l.drop (i + 1) := List.drop_eq_getElem_cons h
theorem zCC {l : List Nat} (hl : l.Pairwise (· < ·)) {i : Nat} (h : i < l.length) : l[i] ∉ l.drop (i + 1) := by
 have h2 := hl.sublist (List.drop_sublist i l)
 rw [kz h] at h2
 intro hm
 exact absurd ((List.pairwise_cons.mp h2).1 _ hm) (by omega)
structure Side (row parts : List Int) (sg : Int) (ds : List (Nat × Int)) : Prop where
 inc : ds.Pairwise (fun p q => p.1 < q.1)
 mem : ∀ p ∈ ds, p.1 < row.length /\ 0 < gI row p.1 * sg /\ 0 < p.2 /\ gI parts p.1 = gI row p.1 * sg - p.2
 out : ∀ k, k < row.length -> 0 < gI row k * sg -> (∀ p ∈ ds, p.1 ≠ k) -> gI parts k = gI row k * sg
theorem Side.head {row parts : List Int} {sg : Int} {d : Nat} {a : Int} {ds : List (Nat × Int)} (s : Side row parts sg ((d, a) :: ds)) : ∀ k, k < d -> 0 < gI row k * sg -> gI parts k = gI row k * sg := by
 have hm := s.mem _ (List.mem_cons_self)
 intro k hk h
 refine s.out k (Nat.lt_trans hk hm.1) h fun p hp e => ?_
 rcases List.mem_cons.mp hp with rfl | hp
 ·exact absurd e (Nat.ne_of_gt hk)
 ·have := (List.pairwise_cons.mp s.inc).1 p hp
  exact absurd (e ▸ this : d < k) (Nat.lt_asymm hk)
theorem zOO {X a b : Int} : X - a + b = X - (a - b) := by omega
theorem Side.pay {row parts : List Int} {sg : Int} {d : Nat} {a b : Int} {ds : List (Nat × Int)} (hl : parts.length = row.length) (s : Side row parts sg ((d, a) :: ds)) :
  Side row (parts.set d (gI parts d + min a b)) sg (if a <= b then ds else (d, a - b) :: ds) := by
 have hm := s.mem _ (List.mem_cons_self)
 have hi := List.pairwise_cons.mp s.inc
 have hdl : d < parts.length := hl ▸ hm.1
 have self := yk (v := gI parts d + min a b) hdl
 have hne : ∀ p ∈ ds, d ≠ p.1 := fun p hp e => absurd (hi.1 p hp) (by show ¬ d < p.1; rw [<- e]; exact Nat.lt_irrefl _)
 refine ⟨?_, ?_, ?_⟩
 ·split
  ·exact hi.2
  ·exact List.pairwise_cons.mpr ⟨hi.1, hi.2⟩
 ·intro p hp
  have old : p ∈ ds -> p.1 < row.length /\ 0 < gI row p.1 * sg /\ 0 < p.2 /\ gI (parts.set d (gI parts d + min a b)) p.1 = gI row p.1 * sg - p.2 := fun hp => by
   have := s.mem p (List.mem_cons_of_mem _ hp)
   rw [yB (hne p hp)]; exact this
  split at hp
  ·exact old hp
  ·rename_i hab
   have hab := Int.not_le.mp hab
   rcases List.mem_cons.mp hp with rfl | hp
   ·refine ⟨hm.1, hm.2.1, Int.sub_pos_of_lt hab, ?_⟩
    show gI _ d = _
    rw [self, hm.2.2.2, Int.min_eq_right (Int.le_of_lt hab)]; exact zOO
   ·exact old hp
 ·intro k hk h hout
  by_cases e : k = d
  ·subst e
   rw [self]
   have hab : a <= b := by
    by_cases hab : a <= b
    ·exact hab
    ·rw [if_neg hab] at hout
     exact absurd rfl (hout _ (List.mem_cons_self))
   rw [hm.2.2.2, Int.min_eq_left hab]; exact Int.sub_add_cancel _ _
  ·rw [yB fun h => e h.symm]
   refine s.out k hk h fun p hp => ?_
   rcases List.mem_cons.mp hp with rfl | hp
   ·simp; exact fun h => e h.symm
   ·split at hout
    ·exact hout p hp
    ·exact hout p (List.mem_cons_of_mem _ hp)
theorem Side.other {row parts : List Int} {sg : Int} {c : Nat} {v : Int} {ds : List (Nat × Int)} (s : Side row parts sg ds) (h : ¬ 0 < gI row c * sg) : Side row (parts.set c v) sg ds := by
 refine ⟨s.inc, fun p hp => ?_, fun k hk hr ho => ?_⟩
 ·have := s.mem p hp
  rw [yB (i := c) (j := p.1) fun e => h (e ▸ this.2.1)]; exact this
 ·rw [yB (i := c) (j := k) fun e => h (e ▸ hr)]; exact s.out k hk hr ho
theorem zI6 (row : List Int) : (row.map fun _ => (0 : Int)).length = row.length := by simp
theorem zED (row : List Int) (k : Nat) : gI (row.map fun _ => (0 : Int)) k = 0 := by
 simp only [gI, List.getD_eq_getElem?_getD, List.getElem?_map]
 cases row[k]? <;> rfl
theorem zEg (row : List Int) : Side row (row.map fun _ => (0 : Int)) 1 (yU row row 0) := by
 refine ⟨?_, ?_, ?_⟩
 ·rw [yU, List.drop_zero, List.pairwise_map]; exact zCm row
 ·intro p hp
  obtain ⟨k, hk, rfl⟩ := List.mem_map.mp hp
  have := ju (List.mem_of_mem_drop hk)
  rw [zED]; simp; omega
 ·intro k hk h ho
  have : (k, gI row k) ∈ yU row row 0 := List.mem_map.mpr ⟨k, by simp [yu, hk]; omega, rfl⟩
  exact absurd rfl (ho _ this)
theorem zEf (row : List Int) : Side row (row.map fun _ => (0 : Int)) (-1) (yT row row 0) := by
 refine ⟨?_, ?_, ?_⟩
 ·rw [yT, List.drop_zero, List.pairwise_map]; exact zB8 row
 ·intro p hp
  obtain ⟨k, hk, rfl⟩ := List.mem_map.mp hp
  have := jV (List.mem_of_mem_drop hk)
  rw [zED]; simp; omega
 ·intro k hk h ho
  have : (k, -gI row k) ∈ yT row row 0 := List.mem_map.mpr ⟨k, by simp [xA, hk]; omega, rfl⟩
  exact absurd rfl (ho _ this)
theorem zEX (row : List Int) : (List.range row.length).map (gI row) = row := by
 refine List.ext_getElem (by simp) fun i h1 h2 => ?_
 simp [gI, h2]
theorem zEs (row : List Int) : tot (yU row row 0) = (row.filter fun c => decide (0 < c)).sum := by
 have : row.filter (fun c => decide (0 < c)) = (yu row).map (gI row) := by
  conv => lhs; rw [<- zEX row]
  rw [List.filter_map]; rfl
 rw [this, tot, yU, List.drop_zero, List.map_map]; rfl
theorem zEr (row : List Int) : tot (yT row row 0) = ((row.filter fun c => decide (c < 0)).map fun c => -c).sum := by
 have : row.filter (fun c => decide (c < 0)) = (xA row).map (gI row) := by
  conv => lhs; rw [<- zEX row]
  rw [List.filter_map]; rfl
 rw [this, tot, yT, List.drop_zero, List.map_map, List.map_map]; rfl
theorem zLd (U : Sto) (a b c d : Int) : ev2 .eq U (.tup [.int a, .int b]) (.tup [.int c, .int d]) = some (.bool (a == c && b == d)) := by
 show some (V.bool (a == c && (b == d && true))) = _
 rw [Bool.and_true]
theorem Go.len {ds cs : List (Nat × Int)} {r : List (Nat × Nat × Int)} (g : Go ds cs r) : r.length <= ds.length + cs.length := by
 induction g with
 | nilD cs => exact Nat.zero_le _
 | nilC ds => exact Nat.zero_le _
 | @step d c a b ds cs r _ ih =>
  rw [List.length_cons, List.length_cons, List.length_cons]
  rcases Int.lt_trichotomy a b with h | h | h
  ·rw [if_pos (Int.le_of_lt h), if_neg (Int.not_le.mpr h), List.length_cons] at ih
   rw [Nat.add_right_comm]; exact Nat.succ_le_succ ih
  ·subst h
   rw [if_pos (Int.le_refl a), if_pos (Int.le_refl a)] at ih
   rw [Nat.add_right_comm]; exact Nat.succ_le_succ (Nat.le_trans ih (Nat.add_le_add_left (Nat.le_succ _) _))
  ·rw [if_neg (Int.not_le.mpr h), if_pos (Int.le_of_lt h), List.length_cons] at ih
   exact Nat.succ_le_succ ih
end Mine
end

section
namespace Mine
open PySem
theorem yJ : zN T12 := ⟨rfl, rfl, rfl, rfl, rfl, rfl, rfl, rfl, rfl, rfl, rfl, rfl, rfl, rfl, rfl, rfl, rfl, rfl, rfl⟩
theorem modTab12 : yg T12 := ⟨rfl, rfl, rfl, rfl, rfl, rfl, rfl, rfl, rfl, rfl, rfl, rfl, rfl⟩
section
variable {d : Nat} {U : Sto} {F Fq : Calls}
theorem zPo {x y : O} : (U ++ [x, y])[U.length]? = some x := zC1
theorem zOW {x y : O} : (U ++ [x, y])[U.length + 1]? = some y := by rw [List.getElem?_append_right (Nat.le_add_right _ 1), Nat.add_sub_cancel_left]; rfl
theorem zPp {x y z : O} : (U ++ [x, y]).set U.length z = U ++ [z, y] := zDP
theorem zMp {x y z : O} : (U ++ [x, y]).set (U.length + 1) z = U ++ [x, z] := by rw [List.set_append_right _ _ (Nat.le_add_right _ 1), Nat.add_sub_cancel_left]; rfl
theorem zDK {l : List Int} {k : Nat} {v : Int} : (iv l).set k (.int v) = iv (l.set k v) := by unfold iv; rw [List.map_set]
theorem isL {n : Nat} {xs : List V} (h : U[n]? = some (.list xs)) : kP U (.ref n) = true := by show (xT _).isSome = true; rw [h]; rfl
theorem zPk {c : CE} {J : List V} {A : Int} {i n : Nat} {rest : List CS} {r : R Fl} (hx : evE F false c J U = .ok (.int A) U) (hi : zI J i = some (.int (n : Int))) (hs : J.set i (.int (n : Int)) = J) (kk : exL F Fq false rest (J.set i (.int ((if A = 0 then n + 1 else n : Nat) : Int))) U = r) :
  exL F Fq false (.ite (.p2 .eq c (.lit (.int 0))) [.asg i (.p2 .add (.var i) (.lit (.int 1)))] [] :: rest) J U = r := by
 by_cases h : A = 0
 ·rw [if_pos h] at kk
  exact s_t (zE (zD hx rfl (by rw [h]; rfl))) (zG (v := .int ((n + 1 : Nat) : Int)) (zD (by rw [zp, hi]; rfl) rfl rfl) kk)
 ·rw [if_neg h, hs] at kk
  exact s_f (zE (zD hx rfl (by rw [xP, beq_false_of_ne h]))) kk
noncomputable def zGV : List CS := match f12_27.body with
 | [_, _, _, _, _, _, .while _ b, _] => b
 | _ => []
noncomputable def zGW : CE := match f12_27.body with
 | [_, _, _, _, _, _, .while c _, _] => c
 | _ => .lit .none
theorem zNw {row left : List Int} {xs : List V} {D C : List V} {one other dp cp : Nat} {va vb vc : V} {part : Int} (iD : D[one]? = some (.int dp)) (iC : C[other]? = some (.int cp)) (hdl : dp < left.length) (hcl : cp < left.length) (hne : dp ≠ cp)
  (hX : xs.length < LIM) (hp : (if 0 - gI left cp < gI left dp then 0 - gI left cp else gI left dp) = part) :
  exL F Fq false zGV [.lst (iv row), .ref U.length, .lst D, .lst C, .ref (U.length + 1), .int one, .int other, va, vb, vc] (U ++ [.list xs, .list (iv left)]) =
   .ok (.next [.lst (iv row), .ref U.length, .lst D, .lst C, .ref (U.length + 1), .int ((if gI left dp - part = 0 then one + 1 else one : Nat) : Int), .int ((if gI left cp + part = 0 then other + 1 else other : Nat) : Int), .int dp, .int cp, .int part])
    (U ++ [.list (xs ++ [yx (dp, cp, part)]), .list (iv ((left.set dp (gI left dp - part)).set cp (gI left cp + part)))]) := by
 have ix : ∀ {J ys : List V} {l : List Int} {k j : Nat}, zI J 4 = some (.ref (U.length + 1)) -> zI J j = some (.int k) -> k < l.length -> evE F false (.p2 .index (.var 4) (.var j)) J (U ++ [.list ys, .list (iv l)]) = .ok (.int (gI l k)) (U ++ [.list ys, .list (iv l)]) := fun h4 hj hk => zD (by rw [zp, h4]; rfl) (by rw [zp, hj]; rfl) (zAE _ zOW hk)
 have l1 : ∀ v : Int, cp < (left.set dp v).length := fun v => by rw [List.length_set]; exact hcl
 have l2 : ∀ v w : Int, cp < ((left.set dp v).set cp w).length := fun v w => by rw [List.length_set]; exact l1 v
 have l3 : ∀ v w : Int, dp < ((left.set dp v).set cp w).length := fun v w => by rw [List.length_set, List.length_set]; exact hdl
 refine zG (zD rfl rfl (yl _ iD)) (zG (zD rfl rfl (yl _ iC)) (zG (v := .int part) (zD (ix rfl rfl hdl) (zD rfl (ix rfl rfl hcl) rfl) (by rw [zA0, hp])) (yP (yC (x := .ref U.length) rfl (isL zPo) rfl (zm _ zPo hX)) ?_)))
 rw [zPp]
 refine yQ (x := .int (gI left dp - part)) (zD (ix rfl rfl hdl) rfl rfl) rfl rfl (xH _ zOW (by rw [wI]; exact hdl)) ?_
 rw [zMp, zDK]
 refine yQ (x := .int (gI left cp + part)) (zD (ix rfl rfl (l1 _)) rfl (by rw [yB hne]; rfl)) rfl rfl (xH _ zOW (by rw [wI]; exact l1 _)) ?_
 rw [zMp, zDK]
 have gd : ∀ v w : Int, gI ((left.set dp v).set cp w) dp = v := fun v w => by rw [yB hne.symm, yk hdl]
 have gc : ∀ v w : Int, gI ((left.set dp v).set cp w) cp = w := fun v w => yk (l1 v)
 refine zPk (ix rfl rfl (l3 _ _)) rfl rfl (zPk (ix rfl rfl (l2 _ _)) rfl rfl ?_)
 rw [gd, gc]; rfl
inductive MI (row : List Int) (U : Sto) (m : Nat) : List V -> Sto -> Prop
 | mk (one other : Nat) (acc : List (Nat × Nat × Int)) (left : List Int) (a b c : V) (hlen : left.length = row.length) (hm : m = (yU row left one).length + (yT row left other).length) (hd : ∀ p ∈ yU row left one, 0 < p.2) (hc : ∀ p ∈ yT row left other, 0 < p.2)
  (hacc : acc.length + m <= 2 * row.length) (hgo : ∀ r, Go (yU row left one) (yT row left other) r -> Go (yU row row 0) (yT row row 0) (acc ++ r)) :
  MI row U m [.lst (iv row), .ref U.length, .lst (nv (yu row)), .lst (nv (xA row)), .ref (U.length + 1), .int one, .int other, a, b, c] (U ++ [.list (acc.map yx), .list (iv left)])
inductive MP (row : List Int) (U : Sto) (J : List V) (U' : Sto) : Prop
 | mk (acc : List (Nat × Nat × Int)) (left : List Int) (g : Go (yU row row 0) (yT row row 0) acc) (h1 : zI J 1 = some (.ref U.length)) (hs : U' = U ++ [.list (acc.map yx), .list (iv left)])
inductive MN (row : List Int) (U : Sto) (F Fq : Calls) (m : Nat) (J : List V) (U1 : Sto) : Prop
 | mk (m' : Nat) (J' : List V) (U' : Sto) (hm : m' < m) (he : exL F Fq false zGV J U1 = .ok (.next J') U') (I : MI row U m' J' U')
theorem zFa {x y p : Int} (hp : (if 0 - y < x then 0 - y else x) = p) : (x <= -y -> x - p = 0) /\ (¬ x <= -y -> x - p ≠ 0 /\ x - p = x - -y) := by
 rw [Int.zero_sub] at hp
 refine ⟨fun h => ?_, fun h => ?_⟩
 ·rw [if_neg (Int.not_lt.mpr h)] at hp; rw [<- hp, Int.sub_self]
 ·have h := Int.not_le.mp h
  rw [if_pos h] at hp; rw [<- hp]
  exact ⟨fun q => absurd (Int.sub_eq_zero.mp q) (Int.ne_of_gt h), rfl⟩
theorem zFZ {x y p : Int} (hp : (if 0 - y < x then 0 - y else x) = p) : (-y <= x -> y + p = 0) /\ (¬ -y <= x -> y + p ≠ 0 /\ -(y + p) = -y - x) := by
 rw [Int.zero_sub] at hp
 refine ⟨fun h => ?_, fun h => ?_⟩
 ·by_cases h1 : -y < x
  ·rw [if_pos h1] at hp; rw [<- hp, Int.add_right_neg]
  ·rw [if_neg h1, Int.le_antisymm (Int.not_lt.mp h1) h] at hp; rw [<- hp, Int.add_right_neg]
 ·have h := Int.not_le.mp h
  rw [if_neg (Int.not_lt.mpr (Int.le_of_lt h))] at hp; rw [<- hp]
  exact ⟨fun q => absurd h (by rw [Int.neg_eq_of_add_eq_zero q]; exact Int.lt_irrefl _), by rw [Int.neg_add, Int.sub_eq_add_neg]⟩
theorem zKh {x y p : Int} (hp : (if 0 - y < x then 0 - y else x) = p) : min x (-y) = p := by
 rw [Int.zero_sub] at hp
 rw [<- hp]
 split
 ·rename_i h; exact Int.min_eq_right (Int.le_of_lt h)
 ·rename_i h; exact Int.min_eq_left (Int.not_lt.mp h)
theorem zJ5 {α : Type} {P Q : Prop} [Decidable P] [Decidable Q] (h : P \/ Q) (xs ys : List α) (x y : α) : (if P then xs else x :: xs).length + (if Q then ys else y :: ys).length < xs.length + 1 + (ys.length + 1) := by
 have l1 : ∀ (R : Prop) [Decidable R] (zs : List α) (z : α), (if R then zs else z :: zs).length <= zs.length + 1 := fun R _ zs z => by
  by_cases hr : R
  ·rw [if_pos hr]; exact Nat.le_succ _
  ·rw [if_neg hr]; exact Nat.le_refl _
 rcases h with h | h
 ·rw [if_pos h]; exact Nat.add_lt_add_of_lt_of_le (Nat.lt_succ_self _) (l1 Q ys y)
 ·rw [if_pos h]; exact Nat.add_lt_add_of_le_of_lt (l1 P xs x) (Nat.lt_succ_self _)
theorem zKH (l : List Nat) : (nv l).length = l.length := List.length_map _
theorem zNx {row left : List Int} (hl : row.length <= 1000) {one other : Nat} {acc : List (Nat × Nat × Int)} {va vb vc : V} (h1 : one < (yu row).length) (h2 : other < (xA row).length) (hlen : left.length = row.length) (hd : ∀ p ∈ yU row left one, 0 < p.2) (hc : ∀ p ∈ yT row left other, 0 < p.2)
  (hacc : acc.length + ((yU row left one).length + (yT row left other).length) <= 2 * row.length) (hgo : ∀ r, Go (yU row left one) (yT row left other) r -> Go (yU row row 0) (yT row row 0) (acc ++ r)) :
  MN row U F Fq ((yU row left one).length + (yT row left other).length) [.lst (iv row), .ref U.length, .lst (nv (yu row)), .lst (nv (xA row)), .ref (U.length + 1), .int one, .int other, va, vb, vc] (U ++ [.list (acc.map yx), .list (iv left)]) := by
 have eD := kz h1
 have eC := kz h2
 have nD := zCC (zCm row) h1
 have nC := zCC (zB8 row) h2
 have mD := ju (List.getElem_mem h1)
 have mC := jV (List.getElem_mem h2)
 have iD := zKG h1
 have iC := zKG h2
 generalize (yu row)[one] = dp at eD nD mD iD
 generalize (xA row)[other] = cp at eC nC mC iC
 have eds : yU row left one = (dp, gI left dp) :: yU row left (one + 1) := by unfold yU; rw [eD]; rfl
 have ecs : yT row left other = (cp, -gI left cp) :: yT row left (other + 1) := by unfold yT; rw [eC]; rfl
 have ha : 0 < gI left dp := hd (dp, gI left dp) (by rw [eds]; exact List.mem_cons_self)
 have hb : 0 < -gI left cp := hc (cp, -gI left cp) (by rw [ecs]; exact List.mem_cons_self)
 have hne : dp ≠ cp := fun e => by rw [e] at ha; exact Int.lt_asymm ha (Int.neg_pos.mp hb)
 have ndC : dp ∉ (xA row).drop other := fun hm => Int.lt_asymm mD.2 (jV (List.mem_of_mem_drop hm)).2
 have ncD : cp ∉ (yu row).drop one := fun hm => Int.lt_asymm mC.2 (ju (List.mem_of_mem_drop hm)).2
 have hdl : dp < left.length := hlen ▸ mD.1
 have hcl : cp < left.length := hlen ▸ mC.1
 have hLIM : (acc.map yx).length < LIM := by rw [List.length_map]; exact Nat.lt_of_le_of_lt (Nat.le_trans (Nat.le_trans (Nat.le_add_right _ _) hacc) (Nat.mul_le_mul_left 2 hl)) (by decide)
 have gd : ∀ v w : Int, gI ((left.set dp v).set cp w) dp = v := fun v w => by rw [yB hne.symm, yk hdl]
 have gc : ∀ v w : Int, gI ((left.set dp v).set cp w) cp = w := fun v w => yk (by rw [List.length_set]; exact hcl)
 have dset : ∀ v w : Int, yU row ((left.set dp v).set cp w) (one + 1) = yU row left (one + 1) := fun v w => by
  rw [zJY fun hm => ncD (by rw [eD]; exact List.mem_cons_of_mem _ hm), zJY nD]
 have cset : ∀ v w : Int, yT row ((left.set dp v).set cp w) (other + 1) = yT row left (other + 1) := fun v w => by
  rw [zJW nC, zJW fun hm => ndC (by rw [eC]; exact List.mem_cons_of_mem _ hm)]
 have dset0 : ∀ v w : Int, yU row ((left.set dp v).set cp w) one = (dp, v) :: yU row left (one + 1) := fun v w => by
  rw [<- dset v w]; unfold yU; rw [eD, List.map_cons, gd]
 have cset0 : ∀ v w : Int, yT row ((left.set dp v).set cp w) other = (cp, -w) :: yT row left (other + 1) := fun v w => by
  rw [<- cset v w]; unfold yT; rw [eC, List.map_cons, gc]
 have hd' : ∀ p ∈ yU row left (one + 1), 0 < p.2 := fun p hp => hd p (by rw [eds]; exact List.mem_cons_of_mem _ hp)
 have hc' : ∀ p ∈ yT row left (other + 1), 0 < p.2 := fun p hp => hc p (by rw [ecs]; exact List.mem_cons_of_mem _ hp)
 have e1 : (yU row left one).length = (yU row left (one + 1)).length + 1 := by rw [eds]; rfl
 have e2 : (yT row left other).length = (yT row left (other + 1)).length + 1 := by rw [ecs]; rfl
 generalize hpart : (if 0 - gI left cp < gI left dp then 0 - gI left cp else gI left dp) = part
 have hmin := zKh hpart
 have ex := zNw (U := U) (F := F) (Fq := Fq) (row := row) (va := va) (vb := vb) (vc := vc) iD iC hdl hcl hne hLIM hpart
 have eds' : yU row ((left.set dp (gI left dp - part)).set cp (gI left cp + part)) (if gI left dp - part = 0 then one + 1 else one) = (if gI left dp <= -gI left cp then yU row left (one + 1) else (dp, gI left dp - -gI left cp) :: yU row left (one + 1)) := by
  by_cases h : gI left dp <= -gI left cp
  ·rw [if_pos ((zFa hpart).1 h), if_pos h, dset]
  ·rw [if_neg ((zFa hpart).2 h).1, if_neg h, dset0, ((zFa hpart).2 h).2]
 have ecs' : yT row ((left.set dp (gI left dp - part)).set cp (gI left cp + part)) (if gI left cp + part = 0 then other + 1 else other) = (if -gI left cp <= gI left dp then yT row left (other + 1) else (cp, -gI left cp - gI left dp) :: yT row left (other + 1)) := by
  by_cases h : -gI left cp <= gI left dp
  ·rw [if_pos ((zFZ hpart).1 h), if_pos h, cset]
  ·rw [if_neg ((zFZ hpart).2 h).1, if_neg h, cset0, ((zFZ hpart).2 h).2]
 have hlen' : (yU row ((left.set dp (gI left dp - part)).set cp (gI left cp + part)) (if gI left dp - part = 0 then one + 1 else one)).length + (yT row ((left.set dp (gI left dp - part)).set cp (gI left cp + part)) (if gI left cp + part = 0 then other + 1 else other)).length < (yU row left one).length + (yT row left other).length := by
  rw [eds', ecs', e1, e2]; exact zJ5 (Int.le_total _ _) _ _ _ _
 refine .mk _ _ _ hlen' (ex.trans (by rw [show acc.map yx ++ [yx (dp, cp, part)] = (acc ++ [(dp, cp, part)]).map yx by rw [List.map_append]; rfl])) (.mk _ _ (acc ++ [(dp, cp, part)]) _ _ _ _ (by rw [List.length_set, List.length_set]; exact hlen) rfl ?_ ?_ ?_ ?_)
 ·rw [eds']
  split
  ·exact hd'
  ·rename_i h
   intro p hp
   rcases List.mem_cons.mp hp with rfl | hp
   ·exact Int.sub_pos_of_lt (Int.not_le.mp h)
   ·exact hd' p hp
 ·rw [ecs']
  split
  ·exact hc'
  ·rename_i h
   intro p hp
   rcases List.mem_cons.mp hp with rfl | hp
   ·exact Int.sub_pos_of_lt (Int.not_le.mp h)
   ·exact hc' p hp
 ·rw [List.length_append, List.length_singleton, Nat.add_assoc, Nat.add_comm 1]; exact Nat.le_trans (Nat.add_le_add_left hlen' _) hacc
 ·intro r hr
  rw [eds', ecs'] at hr
  have := hgo _ (by rw [eds, ecs]; exact .step hr)
  rw [hmin] at this
  rw [List.append_assoc]; exact this
theorem zNv {D C : List V} {one other : Nat} {x0 x1 x4 va vb vc : V} {U : Sto} : evC F false (some zGW) [x0, x1, .lst D, .lst C, x4, .int one, .int other, va, vb, vc] U = .ok (decide (one < D.length) && decide (other < C.length)) U :=
 zE ((zMQ (zD rfl (ze rfl (zi U D)) (xG U _ _)) (zD rfl (ze rfl (zi U C)) (xG U _ _))).trans (by
  rw [show decide ((one : Int) < (D.length : Int)) = decide (one < D.length) from decide_eq_decide.mpr Int.ofNat_lt, show decide ((other : Int) < (C.length : Int)) = decide (other < C.length) from decide_eq_decide.mpr Int.ofNat_lt]))
theorem zNy {row : List Int} (hl : row.length <= 1000) (m : Nat) (J : List V) (U1 : Sto) (h : MI row U m J U1) :
  ((evE F false zGW J U1).bind fun v U => R.lift U (truthy U v)) = .ok false U1 /\ MP row U J U1 \/
  ((evE F false zGW J U1).bind fun v U => R.lift U (truthy U v)) = .ok true U1 /\ ∃ m' J' U', m' < m /\ exL F Fq false zGV J U1 = .ok (.next J') U' /\ MI row U m' J' U' := by
 cases h with
 | mk one other acc left va vb vc hlen hm hd hc hacc hgo =>
 subst hm
 have ec := zNv (F := F) (D := nv (yu row)) (C := nv (xA row)) (one := one) (other := other) (x0 := .lst (iv row)) (x1 := .ref U.length) (x4 := .ref (U.length + 1)) (va := va) (vb := vb) (vc := vc) (U := U ++ [.list (acc.map yx), .list (iv left)])
 rw [zKH, zKH] at ec
 by_cases h1 : one < (yu row).length
 ·by_cases h2 : other < (xA row).length
  ·rw [decide_eq_true h1, decide_eq_true h2] at ec
   cases zNx (U := U) (F := F) (Fq := Fq) (va := va) (vb := vb) (vc := vc) hl h1 h2 hlen hd hc hacc hgo with
   | mk m' J' U' hm he I => exact .inr ⟨ec, m', J', U', hm, he, I⟩
  ·rw [decide_eq_false h2, Bool.and_false] at ec
   have := hgo [] (by rw [show yT row left other = [] by unfold yT; rw [List.drop_eq_nil_of_le (Nat.le_of_not_lt h2)]; rfl]; exact .nilC _)
   rw [List.append_nil] at this
   exact .inl ⟨ec, .mk acc left this rfl rfl⟩
 ·rw [decide_eq_false h1, Bool.false_and] at ec
  have := hgo [] (by rw [show yU row left one = [] by unfold yU; rw [List.drop_eq_nil_of_le (Nat.le_of_not_lt h1)]; rfl]; exact .nilD _)
  rw [List.append_nil] at this
  exact .inl ⟨ec, .mk acc left this rfl rfl⟩
inductive zFu (row : List Int) (U : Sto) (r : R V) : Prop
 | mk (acc : List (Nat × Nat × Int)) (left : List Int) (g : Go (yU row row 0) (yT row row 0) acc) (er : r = .ok (.ref U.length) (U ++ [.list (acc.map yx), .list (iv left)]))
theorem zDp {row : List Int} {op : P2} {p : Nat -> Bool} {J : List V} (hl : row.length < LIM) (h0 : zI J 0 = some (.lst (iv row))) (hlen : J.length = 10) (hop : ∀ k : Nat, ev2 op U (.int (gI row k)) (.int 0) = some (.bool (p k))) (hq : (wb op && false) = false) :
  evE F false (.comp (.var 10) .range1 [.p1 .len (.var 0)] (some (.p2 op (.p2 .index (.var 0) (.var 10)) (.lit (.int 0))))) J U = .ok (.lst (nv ((List.range row.length).filter p))) U := by
 have v0 : ∀ {x : List V}, evE F false (.var 0) (J ++ x) U = .ok (.lst (iv row)) U := fun {x} => by
  rw [zp]; unfold zI at h0 ⊢; rw [List.getElem?_append_left (by omega)]; rw [h0]; rfl
 have v10 : ∀ {x : Nat}, evE F false (.var 10) (J ++ [V.int (x : Int)]) U = .ok (.int x) U := fun {x} => by
  rw [zp]; unfold zI; rw [List.getElem?_append_right (by omega), hlen]; rfl
 refine yi (l := List.range row.length) (φ := fun k : Nat => V.int (k : Int)) (U1 := U) (vs := [.int row.length]) (it := .now (za 0 row.length)) p (fun k : Nat => V.int (k : Int)) (zC (ze (by rw [zp, h0]; rfl) ((zi U _).trans (by rw [wI]))) rfl) (zv U (by rw [Int.natAbs_natCast]; exact Nat.le_of_lt hl)) (.inl (by unfold za; rw [Int.sub_zero, Int.toNat_natCast]; exact congrArg Items.now (List.map_congr_left fun o _ => by rw [Int.zero_add]))) (by rw [List.length_range]; exact hl) (fun k hk => ?_) fun k _ _ => v10
 exact zE (zD (zD v0 v10 (xK U (List.mem_range.mp hk))) rfl (hop k) hq)
theorem c27 {row : List Int} (hl : row.length <= 1000) : zFu row U (zA T12 (d + 1) false 27 [.lst (iv row)] U) := by
 have hL : row.length < LIM := Nat.lt_of_le_of_lt hl (by decide)
 have hm2 : (yU row row 0).length + (yT row row 0).length <= 2 * row.length := by rw [zDz, zDv, Nat.two_mul]; exact Nat.add_le_add (zCn row) (zB9 row)
 have hm := Nat.le_trans hm2 (Nat.mul_le_mul_left 2 hl)
 obtain ⟨J', U', ew, P⟩ := zK0 (F := zA T12 d false) (Fq := zA T12 d true) (c := zGW) (body := zGV) (J := [.lst (iv row), .ref U.length, .lst (nv (yu row)), .lst (nv (xA row)), .ref (U.length + 1), .int 0, .int 0, .undef, .undef, .undef]) (U := U ++ [.list [], .list (iv row)]) (P := MP row U)
  (MI row U) _ (Nat.lt_of_le_of_lt hm (by decide)) (.mk 0 0 [] row _ _ _ rfl rfl (fun p hp => by
   obtain ⟨k, hk, rfl⟩ := List.mem_map.mp hp
   exact (ju (List.mem_of_mem_drop hk)).2) (fun p hp => by
   obtain ⟨k, hk, rfl⟩ := List.mem_map.mp hp
   have := (jV (List.mem_of_mem_drop hk)).2
   exact Int.neg_pos.mpr this) (by rw [List.length_nil, Nat.zero_add]; exact hm2) fun r hr => hr) (zNy hl)
 cases P with
 | mk acc left g h1 hs =>
 subst hs
 have cD : evE (zA T12 d false) false (.comp (.var 10) .range1 [.p1 .len (.var 0)] (some (.p2 .gt (.p2 .index (.var 0) (.var 10)) (.lit (.int 0))))) [.lst (iv row), .ref U.length, .undef, .undef, .undef, .undef, .undef, .undef, .undef, .undef] (U ++ [.list []]) = .ok (.lst (nv (yu row))) (U ++ [.list []]) :=
  zDp (p := fun k => decide (0 < gI row k)) hL rfl rfl (fun k => rfl) rfl
 have cC : evE (zA T12 d false) false (.comp (.var 10) .range1 [.p1 .len (.var 0)] (some (.p2 .lt (.p2 .index (.var 0) (.var 10)) (.lit (.int 0))))) [.lst (iv row), .ref U.length, .lst (nv (yu row)), .undef, .undef, .undef, .undef, .undef, .undef, .undef] (U ++ [.list []]) = .ok (.lst (nv (xA row))) (U ++ [.list []]) :=
  zDp (p := fun k => decide (gI row k < 0)) hL rfl rfl (fun k => rfl) rfl
 have cL : evE (zA T12 d false) false (.trk (.p1 .toList (.var 0))) [.lst (iv row), .ref U.length, .lst (nv (yu row)), .lst (nv (xA row)), .undef, .undef, .undef, .undef, .undef, .undef] (U ++ [.list []]) = .ok (.ref (U.length + 1)) (U ++ [.list [], .list (iv row)]) := by
  show R.ok (V.ref (U ++ [O.list []]).length) ((U ++ [O.list []]) ++ [O.list (iv row)]) = _
  rw [List.length_append, List.append_assoc]; rfl
 generalize yu row = D at cD cC cL ew
 generalize xA row = C at cC cL ew
 refine .mk acc left g (zH (fn := f12_27) rfl rfl (zG (v := V.ref U.length) (U' := U ++ [O.list []]) rfl (zG cD (zG cC (zG cL (zG (v := .int 0) rfl (zG (v := .int 0) rfl (xb ew (zJ (v := .ref U.length) ?_)))))))))
 rw [zp, h1]; rfl
end
end Mine
end

section
namespace Mine
open PySem
section
variable {d : Nat} {U : Sto} {F Fq : Calls}
theorem zOz {row parts : List Int} {n place : Nat} {sign : Int} (hsg : zk sign = true) (hU : U[n]? = some (.list (iv parts))) (hl : row.length <= 1000) (hp : parts.length = row.length) (hpl : place <= row.length)
  (h : ∀ k, k < place -> 0 < gI row k * sign -> gI parts k = gI row k * sign) : zA T12 (d + 1) false 115 [.lst (iv row), .ref n, .int place, .int sign] U = .ok (.bool true) U := by
 obtain ⟨J', U', ef, v, rfl, rfl⟩ := wH (F := zA T12 d false) (Fq := zA T12 d true) (i := 4) (k := .range1) (src := [.var 2]) (body := match f12_115.body with
   | .for _ _ _ b :: _ => b
   | _ => []) (J := [.lst (iv row), .ref n, .int place, .int sign, .undef]) (vs := [.int place]) (U := U) (U1 := U) (it := .now (za 0 place)) (xs := za 0 place)
  (fun _ J U' => ∃ v, J = [.lst (iv row), .ref n, .int place, .int sign, v] /\ U' = U) rfl (zv U (by rw [Int.natAbs_natCast]; exact Nat.le_trans hpl (Nat.le_trans hl (by decide)))) (fun _ _ _ _ => .inl rfl) ⟨_, rfl, rfl⟩ fun j x J U' hx hI => by
   obtain ⟨v, rfl, rfl⟩ := hI
   obtain ⟨rfl, hj⟩ := xa hx
   have hr : j < row.length := Nat.lt_of_lt_of_le hj hpl
   have e1 : evE (zA T12 d false) false (.p2 .mul (.p2 .index (.var 0) (.var 4)) (.var 3)) [.lst (iv row), .ref n, .int place, .int sign, .int j] U' = .ok (.int (gI row j * sign)) U' := zD (zD rfl rfl (xK U' hr)) rfl (yI U' _ _ (.inr hsg))
   refine ⟨_, U', s_f (zE ((zMQ (zD e1 rfl (zBS U' _ _)) (zD (zD rfl rfl (zAE U' hU (hp ▸ hr))) e1 (zNg U' _ _))).trans ?_)) vC, .int j, rfl, rfl⟩
   by_cases h0 : 0 < gI row j * sign
   ·rw [h j hj h0, bne_self_eq_false, Bool.and_false]
   ·rw [show decide (gI row j * sign > 0) = false from decide_eq_false h0, Bool.false_and]
 exact zH (fn := f12_115) rfl rfl (xb ef rfl)
theorem zP2 {row : List Int} {dd c : Nat} {p : Int} (hd : dd < row.length) (hc : c < row.length) (h1 : 0 < gI row dd) (h2 : gI row c < 0) (hp : 0 < p) :
  zA T12 (d + 2) false 116 [.lst (iv row), yx (dd, c, p)] U = .ok (.bool true) U := by
 have wh : ∀ {k : Nat} {i : Int}, ev2 .index U (yx (dd, c, p)) (.int k) = some (.int i) -> evE (zA T12 (d + 1) false) false (.p1 .not (.call 101 [.p2 .index (.var 1) (.lit (.int k))])) [.lst (iv row), yx (dd, c, p)] U = .ok (.bool false) U := fun h => ze (zK (zC (zD rfl rfl h) rfl) (zGN modTab12.t101 _)) rfl
 have wi : ∀ {k j : Nat}, ev2 .index U (yx (dd, c, p)) (.int k) = some (.int j) -> j < row.length -> evE (zA T12 (d + 1) false) false (.p1 .not (.chain (.lit (.int 0)) [.le, .lt] [.p2 .index (.var 1) (.lit (.int k)), .p1 .len (.var 0)])) [.lst (iv row), yx (dd, c, p)] U = .ok (.bool false) U := fun h hj => ze (yD rfl (zD rfl rfl h) (ze rfl ((zi U _).trans (by rw [wI])))) (by rw [in_iff.mpr ⟨_, rfl, hj⟩]; rfl)
 refine zH (fn := zGJ) rfl rfl (s_f (zE (zc (x := .bool false) rfl rfl rfl)) (s_f (zE (zc (wh (k := 0) rfl) rfl (zc (wh (k := 1) rfl) rfl (wh (k := 2) rfl)))) (s_f (zE (zc (wi (k := 0) rfl hd) rfl (wi (k := 1) rfl hc))) (zJ ?_))))
 exact zq (x := .bool true) (zD (zD rfl (zD rfl rfl rfl) (xK U hd)) rfl (by rw [zBS, decide_eq_true h1])) rfl (zq (x := .bool true) (zD (zD rfl (zD rfl rfl rfl) (xK U hc)) rfl (by rw [xG, decide_eq_true h2])) rfl (zD (zD rfl rfl rfl) rfl (by rw [zBS, decide_eq_true hp])))
theorem zNc {a b c e : Int} (h : a ≠ c \/ b ≠ e) : ev2 .eq U (.tup [.int a, .int b]) (.tup [.int c, .int e]) = some (.bool false) := by
 rw [zLd]
 rcases h with h | h
 ·rw [beq_false_of_ne h, Bool.false_and]
 ·rw [beq_false_of_ne h, Bool.and_false]
noncomputable def zJH : List CS := match f12_117.body with
 | [_, _, .for _ _ _ b, _, _, _] => b
 | _ => []
theorem zNS {row parts : List Int} {f dp cp : Nat} {l1 l2 part : Int} (hl : row.length <= 1000) (hp : parts.length = row.length) (hd : dp < row.length) (hc : cp < row.length) (h1 : 0 < gI row dp) (h2 : gI row cp < 0) (h3 : 0 < part)
  (hlast : (dp : Int) ≠ l1 \/ (cp : Int) ≠ l2) (a1 : ∀ k, k < dp -> 0 < gI row k * 1 -> gI parts k = gI row k * 1) (a2 : ∀ k, k < cp -> 0 < gI row k * (-1) -> gI parts k = gI row k * (-1))
  (b1 : gI parts dp + part <= gI row dp) (b2 : gI parts cp + part <= -gI row cp) :
  exL (zA T12 (d + 2) false) (zA T12 (d + 2) true) false zJH [.lst (iv row), .ref f, .ref U.length, .tup [.int l1, .int l2], yx (dp, cp, part), .undef, .undef] (U ++ [.list (iv parts)]) =
   .ok (.next [.lst (iv row), .ref f, .ref U.length, .tup [.int dp, .int cp], yx (dp, cp, part), .undef, .undef]) (U ++ [.list (iv ((parts.set dp (gI parts dp + part)).set cp (gI parts cp + part)))]) := by
 have hne : dp ≠ cp := fun e => by rw [e] at h1; omega
 have hdl : dp < parts.length := hp ▸ hd
 have hcl : cp < parts.length := hp ▸ hc
 have q1 : ∀ v : Int, cp < (parts.set dp v).length := fun v => by rw [List.length_set]; exact hcl
 have q2 : ∀ v w : Int, cp < ((parts.set dp v).set cp w).length := fun v w => by rw [List.length_set]; exact q1 v
 have q3 : ∀ v w : Int, dp < ((parts.set dp v).set cp w).length := fun v w => by rw [List.length_set, List.length_set]; exact hdl
 have k1 := zP2 (d := d) (U := U ++ [.list (iv parts)]) hd hc h1 h2 h3
 have k2 := zOz (d := d + 1) (n := U.length) (U := U ++ [.list (iv parts)]) (sign := 1) (by decide) zh hl hp (Nat.le_of_lt hd) a1
 have k3 := zOz (d := d + 1) (n := U.length) (U := U ++ [.list (iv parts)]) (sign := -1) (by decide) zh hl hp (Nat.le_of_lt hc) a2
 have pix : ∀ {l : List Int} {k j : Nat} {l1 l2 : V}, ev2 .index (U ++ [O.list (iv l)]) (yx (dp, cp, part)) (.int j) = some (.int k) -> k < l.length -> evE (zA T12 (d + 2) false) false (.p2 .index (.var 2) (.p2 .index (.var 4) (.lit (.int j)))) [.lst (iv row), .ref f, .ref U.length, .tup [l1, l2], yx (dp, cp, part), .undef, .undef] (U ++ [.list (iv l)]) = .ok (.int (gI l k)) (U ++ [.list (iv l)]) := fun h hk => zD rfl (zD rfl rfl h) (zAE _ zh hk)
 have rix : ∀ {l : List Int} {k j : Nat} {l1 l2 : V}, ev2 .index (U ++ [O.list (iv l)]) (yx (dp, cp, part)) (.int j) = some (.int k) -> k < row.length -> evE (zA T12 (d + 2) false) false (.p2 .index (.var 0) (.p2 .index (.var 4) (.lit (.int j)))) [.lst (iv row), .ref f, .ref U.length, .tup [l1, l2], yx (dp, cp, part), .undef, .undef] (U ++ [.list (iv l)]) = .ok (.int (gI row k)) (U ++ [.list (iv l)]) := fun h hk => zD rfl (zD rfl rfl h) (xK _ hk)
 refine s_f (zE (zc (x := .bool false) (ze (zK rfl k1) rfl) rfl (zD (x := .tup [.int dp, .int cp]) rfl rfl (zNc hlast)))) (s_f (zE (zc (x := .bool false) (ze (zK rfl k2) rfl) rfl (ze (zK rfl k3) rfl))) (yQ (x := .int (gI parts dp + part)) (zD (pix (j := 0) rfl hdl) rfl rfl) rfl (zD (z := .int dp) rfl rfl rfl) (xH _ zh (by rw [wI]; exact hdl)) ?_))
 rw [wJ, zDK]
 refine yQ (x := .int (gI parts cp + part)) (zD (pix (j := 1) rfl (q1 _)) rfl (by rw [yB hne]; rfl)) rfl (zD (z := .int cp) rfl rfl rfl) (xH _ zh (by rw [wI]; exact q1 _)) ?_
 rw [wJ, zDK]
 refine s_f (zE (zc (x := .bool false) (zD (pix (j := 0) rfl (q3 _ _)) (rix (j := 0) rfl hd) ?_) rfl (zD (pix (j := 1) rfl (q2 _ _)) (ze (rix (j := 1) rfl hc) rfl) ?_))) rfl
 ·rw [yB hne.symm, yk hdl, zBS, show decide (gI parts dp + part > gI row dp) = false from decide_eq_false (Int.not_lt.mpr b1)]
 ·rw [yk (q1 _), zBS, show decide (gI parts cp + part > -gI row cp) = false from decide_eq_false (Int.not_lt.mpr b2)]
inductive CI (row : List Int) (found : List (Nat × Nat × Int)) (f : Nat) (U : Sto) (i : Nat) : List V -> Sto -> Prop
 | mk (ds cs : List (Nat × Int)) (parts : List Int) (l1 l2 : Int) (v : V) (hp : parts.length = row.length) (hgo : Go ds cs (found.drop i)) (hD : Side row parts 1 ds) (hC : Side row parts (-1) cs) (hlast : (∀ p ∈ ds, (p.1 : Int) ≠ l1) \/ (∀ p ∈ cs, (p.1 : Int) ≠ l2)) :
  CI row found f U i [.lst (iv row), .ref f, .ref U.length, .tup [.int l1, .int l2], v, .undef, .undef] (U ++ [.list (iv parts)])
theorem zGS {R a m : Int} (h : m <= a) : R - a + m <= R := by omega
theorem zKE {x : Int} (h : x < 0) : ¬ 0 < x * 1 := by rw [Int.mul_one]; exact Int.not_lt.mpr (Int.le_of_lt h)
theorem zKF {x : Int} (h : 0 < x) : ¬ 0 < x * -1 := by rw [Int.mul_neg, Int.mul_one]; exact Int.not_lt.mpr (Int.neg_nonpos_of_nonneg (Int.le_of_lt h))
theorem zNT {row : List Int} {found : List (Nat × Nat × Int)} {f : Nat} (hl : row.length <= 1000) (i : Nat) (x : V) (J : List V) (U1 : Sto) (hx : (found.map yx)[i]? = some x) (h : CI row found f U i J U1) :
  ∃ J' U', exL (zA T12 (d + 2) false) (zA T12 (d + 2) true) false zJH (J.set 4 x) U1 = .ok (.next J') U' /\ CI row found f U (i + 1) J' U' := by
 cases h with
 | mk ds cs parts l1 l2 v hp hgo hD hC hlast =>
 rw [List.getElem?_map] at hx
 obtain ⟨t, ht, rfl⟩ := Option.map_eq_some_iff.mp hx
 have e : found.drop i = t :: found.drop (i + 1) := by rw [List.drop_eq_getElem_cons (List.getElem?_eq_some_iff.mp ht).1, (List.getElem?_eq_some_iff.mp ht).2]
 rw [e] at hgo
 generalize hr : found.drop (i + 1) = r at hgo
 cases hgo with
 | @step dp cp a b ds cs _ hgo =>
  have mD := hD.mem _ (List.mem_cons_self)
  have mC := hC.mem _ (List.mem_cons_self)
  simp only at mD mC
  have hl1 : (dp : Int) ≠ l1 \/ (cp : Int) ≠ l2 := hlast.imp (fun h => h (dp, a) List.mem_cons_self) fun h => h (cp, b) List.mem_cons_self
  have m1 : 0 < gI row dp := by have := mD.2.1; rw [Int.mul_one] at this; exact this
  have m2 : gI row cp < 0 := by have := mC.2.1; rw [Int.mul_neg, Int.mul_one] at this; exact Int.neg_pos.mp this
  have hne : dp ≠ cp := fun e => by rw [e] at m1; exact Int.lt_asymm m1 m2
  have ex := zNS (d := d) (U := U) (f := f) (part := min a b) hl hp mD.1 mC.1 m1 m2 (Int.lt_min.mpr ⟨mD.2.2.1, mC.2.2.1⟩) hl1 hD.head hC.head (by rw [mD.2.2.2, Int.mul_one]; exact zGS (Int.min_le_left a b)) (by rw [mC.2.2.2, Int.mul_neg, Int.mul_one]; exact zGS (Int.min_le_right a b))
  refine ⟨_, _, ex, .mk _ _ _ _ _ _ (by rw [List.length_set, List.length_set]; exact hp) (hr ▸ hgo) ((hD.pay (b := b) hp).other (zKE m2)) ?_ ?_⟩
  ·have h1 := (hC.other (c := dp) (v := gI parts dp + min a b) (zKF m1)).pay (b := a) (by rw [List.length_set]; exact hp)
   rw [yB hne, Int.min_comm b a] at h1
   exact h1
  ·by_cases hab : a <= b
   ·left
    rw [if_pos hab]
    intro p hp
    have : dp < p.1 := (List.pairwise_cons.mp hD.inc).1 p hp
    exact fun q => Nat.ne_of_gt this (Int.ofNat.inj q)
   ·right
    rw [if_pos (Int.le_of_lt (Int.not_le.mp hab))]
    intro p hp
    have : cp < p.1 := (List.pairwise_cons.mp hC.inc).1 p hp
    exact fun q => Nat.ne_of_gt this (Int.ofNat.inj q)
inductive zOt (U : Sto) (r : R V) : Prop
 | mk (parts : List Int) (er : r = .ok (.bool true) (U ++ [.list (iv parts)]))
theorem zP3 {row : List Int} {found : List (Nat × Nat × Int)} {f : Nat} (hl : row.length <= 1000) (hf : U[f]? = some (.list (found.map yx))) (hgo : Go (yU row row 0) (yT row row 0) found) :
  zOt U (zA T12 (d + 3) false 117 [.lst (iv row), .ref f] U) := by
 have hL : row.length < LIM := Nat.lt_of_le_of_lt hl (by decide)
 have hfl : found.length < LIM := by
  have := hgo.len
  rw [zDz, zDv] at this
  exact Nat.lt_of_le_of_lt (Nat.le_trans this (Nat.add_le_add (Nat.le_trans (zCn row) hl) (Nat.le_trans (zB9 row) hl))) (by decide)
 have hz : ((row.filter fun _ => true).map fun _ => V.int 0) = iv (row.map fun _ => (0 : Int)) := by rw [xJ]; unfold iv; rw [List.map_map]; rfl
 obtain ⟨J', U', ew, I⟩ := wH (F := zA T12 (d + 2) false) (Fq := zA T12 (d + 2) true) (i := 4) (k := .val) (src := [.var 1]) (body := zJH) (J := [.lst (iv row), .ref f, .ref U.length, .tup [.int (-1), .int (-1)], .undef, .undef, .undef])
  (it := .live f) (xs := found.map yx) (vs := [.ref f]) (U := U ++ [.list (iv (row.map fun _ => (0 : Int)))]) (U1 := U ++ [.list (iv (row.map fun _ => (0 : Int)))]) (CI row found f U) rfl (yV _ (yz hf))
   (fun j J U' h => .inr ⟨f, rfl, by cases h; exact yz hf⟩) (.mk _ _ _ (-1) (-1) _ (zI6 row) (by rw [List.drop_zero]; exact hgo) (zEg row) (zEf row) (.inl fun p _ => by omega)) (zNT hl)
 cases I with
 | mk ds cs parts l1 l2 v hp _ _ _ _ =>
 have hs := hgo.sum (fun p hp => ((zEg row).mem p hp).2.2.1) (fun p hp => ((zEf row).mem p hp).2.2.1)
 rw [zEs, zEr] at hs
 have e0 : evE (zA T12 (d + 2) false) false (.trk (.comp (.lit (.int 0)) .val [.var 0] none)) [.lst (iv row), .ref f, .undef, .undef, .undef, .undef, .undef] U = .ok (.ref U.length) (U ++ [.list (iv (row.map fun _ => (0 : Int)))]) := by
  rw [kq, yi (l := row) (φ := V.int) (U1 := U) (vs := [.lst (iv row)]) (it := .now (iv row)) (fun _ => true) (fun _ => V.int 0) rfl rfl (.inl rfl) hL (fun _ _ => rfl) (fun _ _ _ => rfl), hz]; rfl
 have e1 : evE (zA T12 (d + 2) false) false (.p1 .sum (.comp (.var 7) .val [.var 0] (some (.p2 .gt (.var 7) (.lit (.int 0)))))) [.lst (iv row), .ref f, .ref U.length, .tup [.int l1, .int l2], v, .undef, .undef] (U ++ [.list (iv parts)]) = .ok (.int (row.filter fun c => decide (0 < c)).sum) (U ++ [.list (iv parts)]) :=
  ze (yi (l := row) (φ := V.int) (U1 := U ++ [.list (iv parts)]) (vs := [.lst (iv row)]) (it := .now (iv row)) (fun c => decide (0 < c)) V.int rfl rfl (.inl rfl) hL (fun _ _ => rfl) (fun _ _ _ => rfl)) (xg _ _)
 have e2 : evE (zA T12 (d + 2) false) false (.p1 .sum (.comp (.p1 .neg (.var 7)) .val [.var 0] (some (.p2 .lt (.var 7) (.lit (.int 0)))))) [.lst (iv row), .ref f, .ref U.length, .tup [.int l1, .int l2], v, .int (row.filter fun c => decide (0 < c)).sum, .undef] (U ++ [.list (iv parts)]) = .ok (.int ((row.filter fun c => decide (c < 0)).map fun c => -c).sum) (U ++ [.list (iv parts)]) :=
  ze ((yi (l := row) (φ := V.int) (U1 := U ++ [.list (iv parts)]) (vs := [.lst (iv row)]) (it := .now (iv row)) (fun c => decide (c < 0)) (fun c => V.int (-c)) rfl rfl (.inl rfl) hL (fun _ _ => rfl) (fun _ _ _ => rfl)).trans (by rw [show ((row.filter fun c => decide (c < 0)).map fun c => V.int (-c)) = iv ((row.filter fun c => decide (c < 0)).map fun c => -c) by unfold iv; rw [List.map_map]; rfl])) (xg _ _)
 generalize (row.filter fun c => decide (0 < c)).sum = A at hs e1 e2
 generalize ((row.filter fun c => decide (c < 0)).map fun c => -c).sum = B at hs e2
 have e3 : evE (zA T12 (d + 2) false) false (.p1 .sum (.comp (.p2 .index (.var 7) (.lit (.int 2))) .val [.var 1] none)) [.lst (iv row), .ref f, .ref U.length, .tup [.int l1, .int l2], v, .int A, .int B] (U ++ [.list (iv parts)]) = .ok (.int (found.map (·.2.2)).sum) (U ++ [.list (iv parts)]) :=
  ze ((yi (l := found) (φ := yx) (U1 := U ++ [.list (iv parts)]) (vs := [.ref f]) (it := .live f) (fun _ => true) (fun t => V.int t.2.2) rfl (yV _ (yz hf)) (.inr ⟨f, rfl, yz hf⟩) hfl (fun _ _ => rfl) (fun _ _ _ => rfl)).trans (by rw [xJ, show (found.map fun t => V.int t.2.2) = iv (found.map (·.2.2)) by unfold iv; rw [List.map_map]; rfl])) (xg _ _)
 refine .mk parts (zH (fn := f12_117) rfl rfl (zG e0 (zG (v := .tup [.int (-1), .int (-1)]) rfl (xb ew (zG e1 (zG e2 (zJ (zD e3 (zD rfl rfl (zA0 _ _ _)) ?_))))))))
 rw [xP, hs, show min A B = (if B < A then B else A) by
  by_cases h : B < A
  ·rw [if_pos h]; exact Int.min_eq_right (Int.le_of_lt h)
  ·rw [if_neg h]; exact Int.min_eq_left (Int.not_lt.mp h), beq_self_eq_true]
end
end Mine
end

section
namespace Mine
open PySem
noncomputable def wL (v : V) : Prop := ∃ ys, v = .tup ys /\ ∀ y ∈ ys, (∃ s, y = .str s) \/ ∃ i, y = .int i
theorem zEH {U : Sto} {d : Nat} {v : V} (h : wL v) : Has U (d + 2) v := by
 obtain ⟨ys, rfl, h⟩ := h
 obtain ⟨zs, hz⟩ := zDE (U := U) (d := d + 1) (xs := ys) fun y hy => by
  rcases h y hy with ⟨s, rfl⟩ | ⟨i, rfl⟩
  ·exact ⟨_, rfl⟩
  ·exact ⟨_, rfl⟩
 exact ⟨.tuple zs, by show (ys.mapM (xU U (d + 1))).map PyData.tuple = _; rw [hz]; rfl⟩
theorem zHH (l : Ln) : wL (xV l) := ⟨_, rfl, fun y hy => by
 simp only [List.mem_cons, List.not_mem_nil, or_false] at hy
 rcases hy with rfl | rfl | rfl | rfl | rfl | rfl
 ·exact .inl ⟨_, rfl⟩
 all_goals exact .inr ⟨_, rfl⟩⟩
section
variable {d : Nat} {U U' : Sto} {ro ro' : Nat -> Role} {i a b e h o r m k : Nat} {us us' : List Or} {hs rs xs : List V} {u : Or} {F Fq : Calls}
noncomputable def Fr (P : Role -> Prop) (U : Sto) (ro : Nat -> Role) (U' : Sto) (ro' : Nat -> Role) : Prop := ∀ (n : Nat) (x : O), ¬ P (ro n) -> U[n]? = some x -> U'[n]? = some x /\ ro' n = ro n
theorem Fr.refl {P : Role -> Prop} : Fr P U ro U ro := fun n x _ h => ⟨h, rfl⟩
theorem Fr.trans {P : Role -> Prop} {U1 U2 : Sto} {ro1 ro2 : Nat -> Role} (f : Fr P U ro U1 ro1) (g : Fr P U1 ro1 U2 ro2) : Fr P U ro U2 ro2 := fun n x hn hx => by
 obtain ⟨h1, h2⟩ := f n x hn hx
 obtain ⟨h3, h4⟩ := g n x (by rw [h2]; exact hn) h1
 exact ⟨h3, h4.trans h2⟩
theorem Fr.mono {P Q : Role -> Prop} (f : Fr P U ro U' ro') (h : ∀ x, P x -> Q x) : Fr Q U ro U' ro' := fun n x hn hx => f n x (fun p => hn (h _ p)) hx
structure Bk (U : Sto) (ro : Nat -> Role) (i b e h a : Nat) (us : List Or) (hs rs : List V) : Prop where
 B : BookIn U b e h (us.map Or.v) hs
 rb : ro b = .bk i
 re : ro e = .en i
 rh : ro h = .hi i
 A : Acct U ro i a us rs
 inv : ∀ u ∈ us, u.inv
 one : ∀ u ∈ us, 1 <= u.lines.length
noncomputable def zN2 (i : Nat) (x : Role) : Prop := x = .bk i \/ x = .en i \/ x = .hi i \/ kl i x
theorem Bk.keep {P : Role -> Prop} (W : Bk U ro i b e h a us hs rs) (f : Fr P U ro U' ro') (hp : ∀ x, zN2 i x -> ¬ P x) : Bk U' ro' i b e h a us hs rs := by
 obtain ⟨b1, b2⟩ := f b _ (hp _ (.inl W.rb)) W.B.inst
 obtain ⟨e1, e2⟩ := f e _ (hp _ (.inr (.inl W.re))) W.B.ent
 obtain ⟨h1, h2⟩ := f h _ (hp _ (.inr (.inr (.inl W.rh)))) W.B.his
 exact ⟨⟨b1, e1, h1, W.B.ne⟩, b2.trans W.rb, e2.trans W.re, h2.trans W.rh, W.A.keep fun n x hn hx => f n x (hp _ (.inr (.inr (.inr hn)))) hx, W.inv, W.one⟩
theorem Bk.ok (W : Bk U ro i b e h a us hs rs) : ∀ u ∈ us, u.ok := fun u hu => (W.inv u hu).ok
theorem zKP {x : Role} (h : zN2 i x) : x.tag <= 6 /\ x.ix = i := by
 rcases h with rfl | rfl | rfl | h
 ·exact ⟨show 0 <= 6 by decide, rfl⟩
 ·exact ⟨show 1 <= 6 by decide, rfl⟩
 ·exact ⟨show 2 <= 6 by decide, rfl⟩
 ·exact ⟨(wd h).1.2, (wd h).2⟩
theorem zIs : ∀ x, zN2 i x -> ¬ x = Role.kept := fun x hx q => by
 subst q
 exact absurd (zKP hx).1 (show ¬ 7 <= 6 by decide)
theorem Deed.varRaw {F : Calls} {D : Deed} {k i : Nat} {J : List V} (h : J[i]? = some (D.raw k)) : evE F false (.var i) J U = .ok (D.raw k) U := by
 rw [zp]; unfold zI; rw [h]; cases D <;> rfl
theorem Deed.varV {F : Calls} {D : Deed} {i : Nat} {J : List V} (h : J[i]? = some D.v) : evE F false (.var i) J U = .ok D.v U := by
 rw [zp]; unfold zI; rw [h]; cases D <;> rfl
theorem Step.nonempty {us us' : List Or} {D : Deed} {out : List (Int × Int)} (S : Step us D us' out) (hf : D.fit us) (h : ∀ u ∈ us, 1 <= u.lines.length) : ∀ u ∈ us', 1 <= u.lines.length := fun v hv => by
 cases S with
 | ord ls =>
  rcases List.mem_append.mp hv with hv | hv
  ·exact h v hv
  ·rw [List.mem_singleton.mp hv]; show 1 <= (ls.map Ln.fresh).length; rw [List.length_map]; exact hf.1
 | pay o n u hu h1 =>
  rcases zZ hv with hv | rfl
  ·exact h v hv
  ·exact h u (List.mem_of_getElem? hu)
 | ref o n u hu h1 h2 =>
  rcases zZ hv with hv | rfl
  ·exact h v hv
  ·exact h u (List.mem_of_getElem? hu)
 | mov o p n u u' hu hu' hop h1 h2 =>
  rcases zZ hv with hv | rfl
  ·rcases zZ hv with hv | rfl
   ·exact h v hv
   ·exact h u (List.mem_of_getElem? hu)
  ·exact h u' (List.mem_of_getElem? hu')
 | lin w o k n u l hu hl h1 h2 =>
  rcases zZ hv with hv | rfl
  ·exact h v hv
  ·show 1 <= (u.lines.set k _).length; rw [List.length_set]; exact h u (List.mem_of_getElem? hu)
noncomputable def put (ro : Nat -> Role) (f : Nat) (x : Role) : Nat -> Role := fun n => if n = f then x else ro n
theorem zOF {f n : Nat} {x : Role} (h : n ≠ f) : put ro f x n = ro n := if_neg h
theorem zKi {f : Nat} {x : Role} : put ro f x f = x := if_pos rfl
noncomputable def ext (ro : Nat -> Role) (k : Nat) : Nat -> Role := fun n => if n < k then ro n else .other
theorem zJl {P : Role -> Prop} (xs : Sto) : Fr P U ro (U ++ xs) (ext ro U.length) := fun n y _ hy => by
 have hlt := (List.getElem?_eq_some_iff.mp hy).1
 exact ⟨by rw [List.getElem?_append_left hlt]; exact hy, if_pos hlt⟩
theorem zDA (k : Nat) : ext ro U.length (U.length + k) = .other := if_neg (Nat.not_lt.mpr (Nat.le_add_right _ _))
theorem xX (xs : Sto) (k : Nat) : (U ++ xs)[U.length + k]? = xs[k]? := by rw [List.getElem?_append_right (Nat.le_add_right _ _), Nat.add_sub_cancel_left]
theorem zDT (xs : Sto) (k : Nat) (y : O) : (U ++ xs).set (U.length + k) y = U ++ xs.set k y := by rw [List.set_append_right _ _ (Nat.le_add_right _ _), Nat.add_sub_cancel_left]
theorem c11 (B : BookIn U b e h (us.map Or.v) hs) (hu : us[o]? = some u) (hl : u.lines.length < LIM) : zA T12 (d + 2) false 11 [.ref b, .int o] U = .ok (.ref U.length) (U ++ [.list (u.lines.map xV)]) := by
 refine zH (fn := zFB) rfl rfl (xo yJ B rfl rfl (List.getElem?_eq_some_iff.mp (xF hu)).1 (zJ ?_))
 rw [kq, zGF B rfl rfl (xF hu) hl (g := xV) fun l _ => rfl]; rfl
theorem c14 (B : BookIn U b e h (us.map Or.v) hs) (hu : us[o]? = some u) : zA T12 (d + 2) false 14 [.ref b, .int o] U = .ok (.ref U.length) (U ++ [.list (u.rows.map yO)]) := by
 refine zH (fn := zFC) rfl rfl (xo yJ B rfl rfl (List.getElem?_eq_some_iff.mp (xF hu)).1 (zJ ?_))
 rw [kq, ze (z := .lst (u.rows.map yO)) (zD (xO B rfl rfl (xF hu)) (z := .tup (u.rows.map yO)) rfl rfl) rfl]; rfl
theorem zGR (rs : List (Str × Int)) : (rs.map fun r => V.int r.2) = iv (rs.map (·.2)) := by unfold iv; rw [List.map_map]; rfl
theorem c15 (B : BookIn U b e h (us.map Or.v) hs) (hu : us[o]? = some u) (hl : u.rows.length <= 1000) : zFu (u.rows.map (·.2)) U (zA T12 (d + 2) false 15 [.ref b, .int o] U) := by
 have hm := c27 (d := d) (U := U) (row := u.rows.map (·.2)) (by rw [List.length_map]; exact hl)
 cases hm with
 | mk acc left g er =>
 have ec := yi (F := zA T12 (d + 1) false) (elt := .p2 .index (.var 2) (.lit (.int 1))) (k := .val) (src := [.p2 .index (.p2 .index (.attr (.var 0) 0) (.var 1)) (.lit (.int 2))]) (cond := none) (J := [.ref b, .int o]) (U := U) (U1 := U) (vs := [.tup (u.rows.map yO)]) (it := .now (u.rows.map yO)) (l := u.rows) (φ := yO) (fun _ => true) (fun r => V.int r.2)
  (zC (zD (xO B rfl rfl (xF hu)) (z := .tup (u.rows.map yO)) rfl rfl) rfl) rfl (.inl rfl) (Nat.lt_of_le_of_lt hl (by decide)) (fun _ _ => rfl) (fun _ _ _ => rfl)
 rw [xJ, zGR] at ec
 exact .mk acc left g (zH (fn := zFD) rfl rfl (xo yJ B rfl rfl (List.getElem?_eq_some_iff.mp (xF hu)).1 (zJ (zK (zC ec rfl) er))))
theorem zD8 (r : Str × Int) : wL (yO r) := ⟨_, rfl, fun y hy => by
 simp only [List.mem_cons, List.not_mem_nil, or_false] at hy
 rcases hy with rfl | rfl
 ·exact .inl ⟨_, rfl⟩
 ·exact .inr ⟨_, rfl⟩⟩
theorem zHI (t : Nat × Nat × Int) : wL (yx t) := ⟨_, rfl, fun y hy => by
 simp only [List.mem_cons, List.not_mem_nil, or_false] at hy
 rcases hy with rfl | rfl | rfl <;> exact .inr ⟨_, rfl⟩⟩
theorem zKC {n : Nat} (hn : U[n]? = some (.list xs)) (h : ∀ x ∈ xs, wL x) : ev2 .ne U (.ref n) (.lst xs) = some (.bool false) := by
 obtain ⟨x, h1, h2⟩ := zDF (d := 7) hn fun x hx => zEH (d := 5) (h x hx)
 show (eqV U (.ref n) (.lst xs)).map _ = _
 rw [zJe h1 (b := .lst xs) h2 fun ys zs g1 g2 => by
  have g1 : xT U[n]? = some ys := g1
  rw [hn] at g1; cases g1; cases g2; rfl]; rfl
theorem zP4 {n q : Nat} {rows : List (Str × Int)} (hn : U[n]? = some (.list (rows.map yO))) (hq : U[q]? = some (.list (rows.map yO))) : zA T12 (d + 2) false 118 [.ref n, .ref q] U = .ok (.bool true) U := by
 have hfl : ∀ x ∈ rows.map yO, wL x := fun x hx => by obtain ⟨l, _, rfl⟩ := List.mem_map.mp hx; exact zD8 l
 obtain ⟨J', U', ef, v, rfl, rfl⟩ := wH (F := zA T12 (d + 1) false) (Fq := zA T12 (d + 1) true) (i := 2) (k := .val) (src := [.var 0]) (body := match f12_118.body with
   | [_, .for _ _ _ b, _] => b
   | _ => []) (J := [.ref n, .ref q, .undef]) (vs := [.ref n]) (U := U) (U1 := U) (it := .live n) (xs := rows.map yO)
  (fun _ J U' => ∃ v, J = [.ref n, .ref q, v] /\ U' = U) rfl (yV U hn) (fun _ _ _ hI => by obtain ⟨_, _, rfl⟩ := hI; exact .inr ⟨n, rfl, hn⟩) ⟨_, rfl, rfl⟩ fun j x J U' hx hI => by
   obtain ⟨v, rfl, rfl⟩ := hI
   rw [List.getElem?_map] at hx
   obtain ⟨w, _, rfl⟩ := Option.map_eq_some_iff.mp hx
   exact ⟨_, _, s_f (zE (zc (x := .bool false) rfl rfl (zc (x := .bool false) rfl rfl (ze (zK (zC (v := .int w.2) rfl rfl) (zGN modTab12.t101 _)) rfl)))) vC, _, rfl, rfl⟩
 exact zH (fn := f12_118) rfl rfl (s_f (zE (zc (x := .bool false) (ze (ze (x := .ref n) rfl (by rw [zBR, zEK _ hn]; rfl)) rfl) rfl (zD rfl rfl (zLt hn hq fun x hx => zEH (d := 5) (hfl x hx))))) (xb ef rfl))
theorem zP6 (Q : OrdAt U ro i o r u) (ok : u.ok) : zA T12 (d + 1) false 120 [.ref r] U = .ok (.lst (u.lines.map xV)) U := by
 obtain ⟨ls, h0, h1, hl, hls⟩ := Q.index
 refine zH (fn := zGK) rfl rfl (zJ (jM (vs := [.lst ls]) (xs := ls) (zC (zD rfl rfl h0) rfl) rfl (.inl rfl) (by rw [hl]; exact Nat.le_of_lt ok.lim) (by rw [List.length_map]; exact hl) fun j x hx => ?_))
 have hj : j < u.lines.length := by rw [<- hl]; exact (List.getElem?_eq_some_iff.mp hx).1
 have hlj : u.lines[j]? = some u.lines[j] := List.getElem?_eq_getElem hj
 generalize u.lines[j] = l at hlj
 obtain ⟨n, hn, hnn⟩ := hls j l hlj
 rw [hn] at hx; cases hx
 exact ⟨xV l, by rw [List.getElem?_map, hlj]; rfl, yt (zC (zg (k := 0) hnn rfl rfl) (zC (zg (k := 1) hnn rfl rfl) (zC (zg (k := 4) hnn rfl rfl) (zC (zg (k := 5) hnn rfl rfl) (zC (zg (k := 6) hnn rfl rfl) (zC (zg (k := 7) hnn rfl rfl) rfl))))))⟩
noncomputable def xB (p : Nat × List V) : V := .lst [.ref p.1, .lst p.2]
structure KpL (U : Sto) (ro : Nat -> Role) (m : Nat) (kp : List (Nat × List V)) : Prop where
 at_ : U[m]? = some (.list (kp.map xB))
 rm : ro m = .kept
 al : ∀ p ∈ kp, U[p.1]? = some (.list p.2) /\ ro p.1 = .other /\ ∀ x ∈ p.2, wL x
theorem KpL.keep {P : Role -> Prop} {kp : List (Nat × List V)} (K : KpL U ro m kp) (f : Fr P U ro U' ro') (hp : ¬ P .other) (hk : ¬ P .kept) : KpL U' ro' m kp := by
 obtain ⟨h1, h2⟩ := f m _ (by rw [K.rm]; exact hk) K.at_
 refine ⟨h1, h2.trans K.rm, fun p hpm => ?_⟩
 obtain ⟨g1, g2, g3⟩ := K.al p hpm
 obtain ⟨k1, k2⟩ := f p.1 _ (by rw [g2]; exact hp) g1
 exact ⟨k1, k2.trans g2, g3⟩
theorem KpL.frame {kp : List (Nat × List V)} (K : KpL U ro m kp) (x : O) : Fr (· = .kept) U ro (U.set m x) ro := fun n y hn hy => ⟨zP hy fun q => hn (by rw [<- q]; exact K.rm), rfl⟩
theorem KpL.add {kp ps : List (Nat × List V)} (K : KpL U ro m kp) (hp : ∀ p ∈ ps, U[p.1]? = some (.list p.2) /\ ro p.1 = .other /\ ∀ x ∈ p.2, wL x) : KpL (U.set m (.list ((kp ++ ps).map xB))) ro m (kp ++ ps) :=
 ⟨yF K.at_, K.rm, fun q hq => by
  have : U[q.1]? = some (.list q.2) /\ ro q.1 = .other /\ ∀ x ∈ q.2, wL x := (List.mem_append.mp hq).elim (K.al q) (hp q)
  exact ⟨(K.frame _ q.1 _ (by rw [this.2.1]; exact fun h => nomatch h) this.1).1, this.2⟩⟩
theorem zP7 {kp : List (Nat × List V)} (K : KpL U ro m kp) : zA T12 (d + 1) false 122 [.ref m] U = .ok (.bool true) U := by
 obtain ⟨J', U', ef, x, rfl, rfl⟩ := wH (F := zA T12 d false) (Fq := zA T12 d true) (i := 1) (k := .val) (src := [.var 0]) (body := match f12_122.body with
   | .for _ _ _ b :: _ => b
   | _ => []) (J := [.ref m, .undef]) (vs := [.ref m]) (U := U) (U1 := U) (it := .live m) (xs := kp.map xB)
  (fun _ J U' => ∃ x, J = [.ref m, x] /\ U' = U) rfl (yV U K.at_) (fun _ _ _ hI => by obtain ⟨_, _, rfl⟩ := hI; exact .inr ⟨m, rfl, K.at_⟩) ⟨_, rfl, rfl⟩ fun j x J U' hx hI => by
   obtain ⟨y, rfl, rfl⟩ := hI
   rw [List.getElem?_map] at hx
   obtain ⟨p, hp, rfl⟩ := Option.map_eq_some_iff.mp hx
   obtain ⟨h1, _, h3⟩ := K.al p (List.mem_of_getElem? hp)
   exact ⟨_, _, s_f (zE (zD (x := .ref p.1) (y := .lst p.2) (zD (x := xB p) rfl rfl rfl) (zD (x := xB p) rfl rfl rfl) (zKC h1 h3))) vC, _, rfl, rfl⟩
 exact zH (fn := f12_122) rfl rfl (xb ef rfl)
end
end Mine
end

section
namespace Mine
open PySem
section
variable {d : Nat} {U U' : Sto} {ro ro' : Nat -> Role} {i a b e h o r m k : Nat} {us us' : List Or} {hs rs xs : List V} {u : Or} {F Fq : Calls} {kp : List (Nat × List V)}
theorem zLc {c : CE} {J : List V} {n : Nat} (hc : evE F false c J U = .ok (.ref n) U) (hn : U[n]? = some (.list xs)) : evE F false (.clear c) J U = .ok .none (U.set n (.list [])) := by
 rw [zGt, hc]
 show (match U[n]? with | some (.list _) => R.ok V.none (U.set n (.list [])) | _ => .stuck) = _
 rw [hn]
inductive zLG (U : Sto) (ro : Nat -> Role) (i b e h a m : Nat) (us : List Or) (hs rs : List V) (n : Nat) (r : R V) : Prop
 | mk (U' : Sto) (ro' : Nat -> Role) (kp' : List (Nat × List V)) (er : r = .ok (.bool true) U') (W : Bk U' ro' i b e h a us hs rs) (K : KpL U' ro' m kp') (f : Fr (· = .kept) U ro U' ro') (hl : kp'.length = n + 3)
noncomputable def st5 (U : Sto) (X L A : List V) (lf ps : List Int) : Sto := U ++ [.list X, .list L, .list A, .list (iv lf), .list (iv ps)]
noncomputable def zJc : List CS := f12_121.body.drop 6
noncomputable def zNz : List CS := f12_121.body.drop 5
theorem zJd {X L A : List V} {lf ps : List Int} {bv av : V} (K : KpL (st5 U X L A lf ps) ro m kp) (hm : m < U.length) (hk : kp.length + 3 < LIM) :
  exL F Fq false zJc [bv, av, .int o, .ref m, .ref (U.length + 0), .ref (U.length + 1), .ref (U.length + 2)] (st5 U X L A lf ps) = .ok (.ret (.bool true)) ((st5 U X L A lf ps).set m (.list ((kp ++ [(U.length + 0, X), (U.length + 1, L), (U.length + 2, A)]).map xB))) := by
 have at_ : ∀ {x : List V}, ((st5 U X L A lf ps).set m (.list x))[m]? = some (.list x) := fun {x} => yF K.at_
 have nw : ∀ {x xs : List V} {k : Nat}, [O.list X, .list L, .list A, .list (iv lf), .list (iv ps)][k]? = some (.list xs) -> ((st5 U X L A lf ps).set m (.list x))[U.length + k]? = some (.list xs) := fun {x xs k} h => zP ((xX _ k).trans h) (Nat.ne_of_lt (Nat.lt_of_lt_of_le hm (Nat.le_add_right _ _)))
 have tl : ∀ {s : Sto} {xs : List V} {n : Nat}, s[n]? = some (.list xs) -> ev1 .toList s (.ref n) = some (.lst xs) := fun {s xs n} h => by show (match s[n]? with | some (.list xs) => some xs | _ => none).map V.lst = _; rw [h]; rfl
 have l0 : (kp.map xB).length < LIM := by rw [List.length_map]; exact Nat.lt_of_le_of_lt (Nat.le_add_right _ 3) hk
 have l1 : (kp.map xB ++ [xB (U.length + 0, X)]).length < LIM := by rw [List.length_append, List.length_map]; exact Nat.lt_of_le_of_lt (Nat.add_le_add_left (show 1 <= 3 by decide) _) hk
 have l2 : (kp.map xB ++ [xB (U.length + 0, X)] ++ [xB (U.length + 1, L)]).length < LIM := by rw [List.length_append, List.length_append, List.length_map]; exact Nat.lt_of_le_of_lt (Nat.add_le_add_left (show 2 <= 3 by decide) _) hk
 have ap : kp.map xB ++ [xB (U.length + 0, X)] ++ [xB (U.length + 1, L)] ++ [xB (U.length + 2, A)] = (kp ++ [(U.length + 0, X), (U.length + 1, L), (U.length + 2, A)]).map xB := by rw [List.map_append, List.append_assoc, List.append_assoc]; rfl
 refine yP (yC (x := .ref m) (y := xB (U.length + 0, X)) rfl (isL K.at_) (xl (zC rfl (zC (ze (x := .ref (U.length + 0)) rfl (tl ((xX _ 0).trans rfl))) rfl))) (zm _ K.at_ l0)) ?_
 refine yP (yC (x := .ref m) (y := xB (U.length + 1, L)) rfl (isL at_) (xl (zC rfl (zC (ze (x := .ref (U.length + 1)) rfl (tl (nw (k := 1) rfl))) rfl))) (zm _ at_ l1)) ?_
 rw [List.set_set]
 refine yP (yC (x := .ref m) (y := xB (U.length + 2, A)) rfl (isL at_) (xl (zC rfl (zC (ze (x := .ref (U.length + 2)) rfl (tl (nw (k := 2) rfl))) rfl))) (zm _ at_ l2)) ?_
 rw [List.set_set, ap]; rfl
noncomputable def zOE : V := .tup [.str { cps := #[112, 97, 121] }, .int (-7)]
noncomputable def zNX : V := .tup [.str { cps := #[99, 117, 112] }, .int 1, .int 0, .int 0, .int 0, .int 0]
theorem zJq : wL zOE := ⟨_, rfl, fun y hy => by
 simp only [List.mem_cons, List.not_mem_nil, or_false] at hy
 rcases hy with rfl | rfl
 ·exact .inl ⟨_, rfl⟩
 ·exact .inr ⟨_, rfl⟩⟩
theorem zJp : wL zNX := ⟨_, rfl, fun y hy => by
 simp only [List.mem_cons, List.not_mem_nil, or_false] at hy
 rcases hy with rfl | rfl | rfl | rfl | rfl | rfl
 ·exact .inl ⟨_, rfl⟩
 all_goals exact .inr ⟨_, rfl⟩⟩
theorem zD7 {xs : List V} {x : V} (h : ∀ y ∈ xs, wL y) (hx : wL x) : ∀ y ∈ xs ++ [x], wL y := fun y hy => (List.mem_append.mp hy).elim (h y) fun q => List.mem_singleton.mp q ▸ hx
inductive Mid (U : Sto) (F Fq : Calls) (J : List V) (X L A : List V) (lf ps : List Int) : Prop
 | mk (X' L' A' : List V) (e : ∀ {r : R Fl}, exL F Fq false zJc J (st5 U X' L' A' lf ps) = r -> exL F Fq false zNz J (st5 U X L A lf ps) = r) (hR : ∀ x ∈ X', wL x) (hL : ∀ x ∈ L', wL x) (hA : ∀ x ∈ A', wL x)
theorem zKA {X L A : List V} {lf ps : List Int} {bv av : V} {ks : List V} (hm : (st5 U X L A lf ps)[m]? = some (.list ks)) (lR : X.length < LIM) (lL : L.length < LIM) (hR : ∀ x ∈ X, wL x) (hL : ∀ x ∈ L, wL x) (hA : ∀ x ∈ A, wL x) :
  Mid U F Fq [bv, av, .int o, .ref m, .ref (U.length + 0), .ref (U.length + 1), .ref (U.length + 2)] X L A lf ps := by
 have em : evE F false (.p2 .eq (.p2 .mod (.p1 .len (.var 3)) (.lit (.int 4))) (.lit (.int 2))) [bv, av, .int o, .ref m, .ref (U.length + 0), .ref (U.length + 1), .ref (U.length + 2)] (st5 U X L A lf ps) = .ok (.bool ((ks.length : Int).fmod 4 == 2)) (st5 U X L A lf ps) := zD (zD (ze (x := .ref m) rfl (vH _ hm)) rfl (xq _ _ 4 rfl)) rfl rfl
 cases ht : ((ks.length : Int).fmod 4 == 2) with
 | false =>
  rw [ht] at em
  exact .mk X L A (fun kk => s_f (zE em) kk) hR hL hA
 | true =>
  rw [ht] at em
  refine .mk (X ++ [zOE]) (L ++ [zNX]) [] (fun {r} kk => s_t (zE em) ?_) (zD7 hR zJq) (zD7 hL zJp) (fun x hx => nomatch hx)
  refine yP (yC (x := .ref (U.length + 0)) (y := zOE) rfl (isL ((xX _ 0).trans rfl)) rfl (zm _ (xs := X) ((xX _ 0).trans rfl) lR)) ?_
  unfold st5; rw [zDT]
  refine yP (yC (x := .ref (U.length + 1)) (y := zNX) rfl (isL ((xX _ 1).trans rfl)) rfl (zm _ (xs := L) ((xX _ 1).trans rfl) lL)) ?_
  rw [zDT]
  refine yP (zLc (n := U.length + 2) (xs := A) rfl ((xX _ 2).trans rfl)) ?_
  rw [zDT]
  exact kk
end
end Mine
end

section
namespace Mine
open PySem
section
variable {d : Nat} {U U' : Sto} {ro ro' : Nat -> Role} {i a b e h o r m k : Nat} {us us' : List Or} {hs rs xs : List V} {u : Or} {F Fq : Calls} {kp : List (Nat × List V)}
theorem zJS {J : List V} {c : CE} {q : Nat} {rows : List (Str × Int)} (hlen : J.length = 7) (hc : evE F false c J U = .ok (.ref q) U) (hq : U[q]? = some (.list (rows.map yO))) (hl : rows.length < LIM) :
  evE F false (.comp (.p2 .index (.var 7) (.lit (.int 1))) .val [c] none) J U = .ok (.lst (iv (rows.map (·.2)))) U := by
 have v7 : ∀ {w : Str × Int}, evE F false (.var 7) (J ++ [yO w]) U = .ok (yO w) U := fun {w} => by
  rw [zp]; unfold zI; rw [List.getElem?_append_right (by omega), hlen]; rfl
 have ec := yi (F := F) (elt := .p2 .index (.var 7) (.lit (.int 1))) (k := .val) (src := [c]) (cond := none) (J := J) (U := U) (U1 := U) (vs := [.ref q]) (it := .live q) (l := rows) (φ := yO) (fun _ => true) (fun r => V.int r.2)
  (zC hc rfl) (yV U hq) (.inr ⟨q, rfl, hq⟩) hl (fun _ _ => rfl) (fun w _ _ => zD v7 rfl rfl)
 rw [xJ, zGR] at ec
 exact ec
theorem zO0 (W : Bk U ro i b e h a us hs rs) (K : KpL U ro m kp) (ho : o < us.length) (hk : kp.length + 3 < LIM) (hr : ∀ u ∈ us, u.rows.length <= 1000) : zLG U ro i b e h a m us hs rs kp.length (zA T12 (d + 4) false 121 [.ref b, .ref a, .int o, .ref m] U) := by
 have hu : us[o]? = some us[o] := List.getElem?_eq_getElem ho
 generalize us[o] = u at hu
 have hum := List.mem_of_getElem? hu
 have iu := W.inv u hum
 have hrow := hr u hum
 have Wx : ∀ xs : Sto, Bk (U ++ xs) (ext ro U.length) i b e h a us hs rs := fun xs => W.keep (P := fun _ => False) (zJl xs) fun _ _ h => h
 have ml : m < U.length := (List.getElem?_eq_some_iff.mp K.at_).1
 have flr : ∀ x ∈ u.rows.map yO, wL x := fun x hx => by obtain ⟨l, _, rfl⟩ := List.mem_map.mp hx; exact zD8 l
 have fll : ∀ x ∈ u.lines.map xV, wL x := fun x hx => by obtain ⟨l, _, rfl⟩ := List.mem_map.mp hx; exact zHH l
 have e4 : zA T12 (d + 3) false 14 [.ref b, .int o] U = .ok (.ref (U.length + 0)) (U ++ [.list (u.rows.map yO)]) := c14 (d := d + 1) W.B hu
 have e5 : zA T12 (d + 3) false 11 [.ref b, .int o] (U ++ [.list (u.rows.map yO)]) = .ok (.ref (U.length + 1)) (U ++ [.list (u.rows.map yO), .list (u.lines.map xV)]) := (c11 (d := d + 1) (Wx _).B hu iu.ok.lim).trans (by rw [List.length_append, List.append_assoc]; rfl)
 have W2 := Wx [.list (u.rows.map yO), .list (u.lines.map xV)]
 have g0 : (U ++ [O.list (u.rows.map yO), .list (u.lines.map xV)])[U.length + 0]? = some (.list (u.rows.map yO)) := xX _ 0
 have g1 : (U ++ [O.list (u.rows.map yO), .list (u.lines.map xV)])[U.length + 1]? = some (.list (u.lines.map xV)) := xX _ 1
 obtain ⟨r, hr2, Q⟩ := W2.A.index hu
 have e120 := zP6 (d := d + 2) Q iu.ok
 have hm := c15 (d := d + 1) W2.B hu hrow
 cases hm with
 | mk acc left g er =>
 have e6 : zA T12 (d + 3) false 15 [.ref b, .int o] (U ++ [.list (u.rows.map yO), .list (u.lines.map xV)]) = .ok (.ref (U.length + 2)) (U ++ [.list (u.rows.map yO), .list (u.lines.map xV), .list (acc.map yx), .list (iv left)]) := er.trans (by rw [List.length_append, List.append_assoc]; rfl)
 have W4 := Wx [.list (u.rows.map yO), .list (u.lines.map xV), .list (acc.map yx), .list (iv left)]
 obtain ⟨r4, hr4, Q4⟩ := W4.A.index hu
 have g2 : (U ++ [O.list (u.rows.map yO), .list (u.lines.map xV), .list (acc.map yx), .list (iv left)])[U.length + 2]? = some (.list (acc.map yx)) := xX _ 2
 have hw := zP3 (d := d) (row := u.rows.map (·.2)) (by rw [List.length_map]; exact hrow) g2 g
 cases hw with
 | mk ps ew =>
 have ew : zA T12 (d + 3) false 117 [.lst (iv (u.rows.map (·.2))), .ref (U.length + 2)] (U ++ [O.list (u.rows.map yO), .list (u.lines.map xV), .list (acc.map yx), .list (iv left)]) = .ok (.bool true) (st5 U (u.rows.map yO) (u.lines.map xV) (acc.map yx) left ps) := ew.trans (by rw [List.append_assoc]; rfl)
 have f5 : ∀ X L A : List V, Fr (fun _ => False) U ro (st5 U X L A left ps) (ext ro U.length) := fun X L A => zJl _
 have K5 : ∀ X L A : List V, KpL (st5 U X L A left ps) (ext ro U.length) m kp := fun X L A => K.keep (f5 X L A) (fun h => h) fun h => h
 have hmid := zKA (U := U) (F := zA T12 (d + 3) false) (Fq := zA T12 (d + 3) true) (o := o) (m := m) (bv := .ref b) (av := .ref a) (lf := left) (ps := ps) (K5 (u.rows.map yO) (u.lines.map xV) (acc.map yx)).at_ (by rw [List.length_map]; exact Nat.lt_of_le_of_lt hrow (by decide)) (by rw [List.length_map]; exact iu.ok.lim) flr fll fun x hx => by obtain ⟨t, _, rfl⟩ := List.mem_map.mp hx; exact zHI t
 cases hmid with
 | mk X L A em hX hL hA =>
 have KK := K5 X L A
 have en := zJd (F := zA T12 (d + 3) false) (Fq := zA T12 (d + 3) true) (o := o) (bv := .ref b) (av := .ref a) KK ml hk
 have K6 := KK.add (ps := [(U.length + 0, X), (U.length + 1, L), (U.length + 2, A)]) (fun p hp => by
  simp only [List.mem_cons, List.not_mem_nil, or_false] at hp
  rcases hp with rfl | rfl | rfl
  ·exact ⟨xX _ 0, zDA 0, hX⟩
  ·exact ⟨xX _ 1, zDA 1, hL⟩
  ·exact ⟨xX _ 2, zDA 2, hA⟩)
 have F6 := KK.frame (.list ((kp ++ [(U.length + 0, X), (U.length + 1, L), (U.length + 2, A)]).map xB))
 have W6 := (W.keep (P := fun _ => False) (f5 X L A) fun _ _ h => h).keep F6 zIs
 refine .mk _ _ _ (zH (fn := f12_121) rfl rfl (zG (zS rfl W.B.isInst rfl e4) (zG (zS rfl (Wx _).B.isInst rfl e5) ?_))) W6 K6 (((f5 X L A).mono fun _ h => h.elim).trans F6) (by rw [List.length_append]; rfl)
 cases Q with
 | mk q ls hrr rr hq rq hl hls =>
 cases Q4 with
 | mk q4 ls4 hrr4 rr4 hq4 rq4 hl4 hls4 =>
 refine s_f (zE (zc (x := .bool false) (ze (zK (zC rfl (zC (zD (zD rfl rfl hr2) rfl (zU _ (i := 2) hrr rfl)) rfl)) (zP4 (d := d + 1) g0 hq)) rfl) rfl (zD (x := .ref (U.length + 1)) rfl (zK (zC (zD rfl rfl hr2) rfl) e120) (zKC g1 fll)))) (zG (zS rfl W2.B.isInst rfl e6) (s_f (zE (zc (x := .bool false) (ze (ze (x := .ref (U.length + 2)) rfl (by rw [zBR, zEK _ g2]; rfl)) rfl) rfl (ze (zK (zC (zJS rfl (zD (zD rfl rfl hr4) rfl (zU _ (i := 2) hrr4 rfl)) hq4 (Nat.lt_of_le_of_lt hrow (by decide))) (zC rfl rfl)) ew) rfl))) (em en)))
end
end Mine
end

section
namespace Mine
open PySem
noncomputable def jt (i : Nat) (x : Role) : Prop := x = .en i \/ x = .hi i \/ kl i x \/ x = .fresh
section
variable {d : Nat} {U U' : Sto} {ro ro' : Nat -> Role} {i a b e h o r m k : Nat} {us us' : List Or} {hs rs xs : List V} {u : Or} {fv : V} {kp : List (V × V)}
theorem wv {P : Role -> Prop} (x : O) (z : Role) : Fr P U ro (U ++ [x]) (put ro U.length z) := fun n y _ hy => ⟨yz hy, zOF (Nat.ne_of_lt (List.getElem?_eq_some_iff.mp hy).1)⟩
inductive zOg (U : Sto) (ro : Nat -> Role) (i b e h a : Nat) (us : List Or) (hl : Nat) (D : Deed) (dv : V) (F G : Calls) : Prop
 | mk (U1 U' : Sto) (v w : V) (ro' : Nat -> Role) (us' : List Or) (out : List (Int × Int)) (hs' rs' : List V) (e1 : F 2 [.ref b, D.v] U = .ok v U1) (A1 : Acct U1 ro i a us rs') (k1 : ∀ (n : Nat) (x : O), n ≠ e -> n ≠ h -> U[n]? = some x -> U1[n]? = some x) (rs3 : List V) (e2 : G 112 [dv, .ref a] U1 = .ok w U') (S : Step us D us' out) (W : Bk U' ro' i b e h a us' hs' rs3) (f : Fr (jt i) U ro U' ro') (hh : hs'.length = hl + 1)
theorem zJA {d2 : Nat} {dv : V} (W : Bk U ro i b e h a us hs rs) (D : Deed) (hf : D.fit us) (he : D.err us = none) (hrow : ∀ u ∈ us, u.rows.length < LIM) (hlu : us.length < LIM) (hh : hs.length < LIM) (hdv : ∀ U1 : Sto, (∀ (n : Nat) (x : O), n ≠ e -> n ≠ h -> U[n]? = some x -> U1[n]? = some x) -> DeedAt U1 D dv) : zOg U ro i b e h a us hs.length D dv (zA T12 (d + 6) false) (zA T12 (d2 + 3) false) := by
 have hg := zPI (T := T12) (d := d) yJ W.B W.ok hrow hh D hf
 cases hg with
 | no c er he' => rw [he] at he'; cases he'
 | yes U1 us' out hs' er _ S B hl hk =>
  have A1 : Acct U1 ro i a us rs := W.A.keep fun n x hn hx => by
   have ne : n ≠ e := fun q => by rw [q, W.re] at hn; exact zN0 (x := .en i) (.inl (show 1 < 3 by decide)) hn
   have nh : n ≠ h := fun q => by rw [q, W.rh] at hn; exact zN0 (x := .hi i) (.inl (show 2 < 3 by decide)) hn
   exact ⟨hk n x ne nh hx, rfl⟩
  have hst := zNn (d := d2) modTab12 A1 W.ok hrow hlu S hf (hdv U1 hk)
  cases hst with
  | mk U3 ro3 rs3 e4 A3 hro hk3 =>
  have at3 : ∀ {n : Nat} {x : O} {z : Role}, U1[n]? = some x -> ro n = z -> z.tag < 3 -> U3[n]? = some x /\ ro3 n = z := fun {n x z} hx hz hzz => ⟨hk3 n x (by rw [hz]; exact zN0 (.inl hzz)) hx, (hro n x hx).trans hz⟩
  obtain ⟨b1, b2⟩ := at3 B.inst W.rb (show 0 < 3 by decide)
  obtain ⟨e1, e2⟩ := at3 B.ent W.re (show 1 < 3 by decide)
  obtain ⟨h1, h2⟩ := at3 B.his W.rh (show 2 < 3 by decide)
  refine .mk U1 U3 _ _ ro3 us' out hs' rs er A1 hk rs3 e4 S ⟨⟨b1, e1, h1, B.ne⟩, b2, e2, h2, A3, S.inv hf W.inv, S.nonempty hf W.one⟩ (fun n x hn hx => ?_) hl
  have ne : n ≠ e := fun q => hn (by rw [q]; exact .inl W.re)
  have nh : n ≠ h := fun q => hn (by rw [q]; exact .inr (.inl W.rh))
  have g1 := hk n x ne nh hx
  exact ⟨hk3 n x (fun q => hn (.inr (.inr (.inl q)))) g1, hro n x g1⟩
theorem zHK {T : Nat -> Option Fn} (h : T k = some zDB) (D : Deed) : zA T (d + 1) false k [D.v] U = .ok D.v U := by
 refine zH h rfl ?_
 cases D with
 | ord ls => exact s_t rfl (zJ rfl)
 | pay o n => exact s_f rfl (zJ rfl)
 | ref o n => exact s_f rfl (zJ rfl)
 | mov o p n => exact s_f rfl (zJ rfl)
 | lin w o k n => cases w <;> exact s_f rfl (zJ rfl)
noncomputable def zCz : List CS := [.exp (.callm 2 (.var 0) [.call 113 [.var 7]]), .exp (.call 112 [.var 7, .var 1])]
theorem zDc {U1 : Sto} {D : Deed} {v w x2 x3 x4 x5 x6 : V} (hi : isInst U (.ref b) = true) (e1 : zA T12 (d + 6) false 2 [.ref b, D.v] U = .ok v U1) (e2 : zA T12 (d + 6) false 112 [D.v, .ref a] U1 = .ok w U') :
  exL (zA T12 (d + 6) false) (zA T12 (d + 6) true) false zCz [.ref b, .ref a, x2, x3, x4, x5, x6, D.v] U = .ok (.next [.ref b, .ref a, x2, x3, x4, x5, x6, D.v]) U' := by
 exact yP (zS rfl hi (zC (zK (zC (Deed.varV rfl) rfl) (zHK (T := T12) rfl D)) rfl) e1) (yP (zK (zC (Deed.varV rfl) (zC rfl rfl)) e2) vC)
theorem jC {it : Items} {f : V -> List V -> Sto -> R Fl} {k i : Nat} {J J' : List V} {U' : Sto} {xs : List V} {x : V} (g : Gives U it xs) (hx : xs[i]? = some x) (e : f x J U = .ok (.next J') U') : yy it f (k + 1) i J U = yy it f k (i + 1) J' U' := by
 exact zK7 ((g.next _).trans (by rw [hx])) e
theorem zB1 {it : Items} {f : V -> List V -> Sto -> R Fl} {k i : Nat} {J : List V} {xs : List V} (g : Gives U it xs) (hx : xs[i]? = none) : yy it f (k + 1) i J U = .ok (.next J) U := by
 exact zK6 ((g.next _).trans (by rw [hx]))
theorem zK9 {F Fq : Calls} {J : List V} {t v n : Nat} {xs : List V} {body : List CS} (hv : zI J v = some (.ref n)) (h0 : U[n]? = some (.list xs)) : exS F Fq false (.for t .val [.var v] body) J U = yy (.live n) (fun x J U => (exL F Fq false body (J.set t x) U)) (xs.length + 1) 0 J U := by
 show ((evL F false [.var v] J U).bind fun vs U => (R.lift U (zT U .val vs)).bind fun it U => yZ it (fun x J U => (exL F Fq false body (J.set t x) U)) J U) = _
 rw [zC (vs := []) (show evE F false (.var v) J U = .ok (.ref n) U by rw [zp, hv]; rfl) rfl, R.bind_ok, yV U h0, R.lift_some, R.bind_ok, yZ, (show Gives U (.live n) xs from .inr ⟨n, rfl, h0⟩).fuel]
theorem zMF {F Fq : Calls} {J J1 : List V} {U1 : Sto} {t v n : Nat} {x : V} {body : List CS} (hv : zI J v = some (.ref n)) (h0 : U[n]? = some (.list [x])) (e1 : exL F Fq false body (J.set t x) U = .ok (.next J1) U1) (h1 : U1[n]? = some (.list [x])) : exS F Fq false (.for t .val [.var v] body) J U = .ok (.next J1) U1 :=
 (zK9 hv h0).trans ((jC (.inr ⟨n, rfl, h0⟩) rfl (by rw [e1] <;> rfl)).trans (zB1 (.inr ⟨n, rfl, h1⟩) rfl))
theorem zMG {F Fq : Calls} {J J1 J2 : List V} {U1 U2 : Sto} {t v n : Nat} {x y : V} {body : List CS} (hv : zI J v = some (.ref n)) (h0 : U[n]? = some (.list [x, y])) (e1 : exL F Fq false body (J.set t x) U = .ok (.next J1) U1) (h1 : U1[n]? = some (.list [x, y])) (e2 : exL F Fq false body (J1.set t y) U1 = .ok (.next J2) U2) (h2 : U2[n]? = some (.list [x, y])) : exS F Fq false (.for t .val [.var v] body) J U = .ok (.next J2) U2 :=
 (zK9 hv h0).trans ((jC (.inr ⟨n, rfl, h0⟩) rfl (by rw [e1] <;> rfl)).trans ((jC (.inr ⟨n, rfl, h1⟩) rfl (by rw [e2] <;> rfl)).trans (zB1 (.inr ⟨n, rfl, h2⟩) rfl)))
noncomputable def sPen : Str := { cps := #[112, 101, 110] }
noncomputable def wg (k : Nat) : Ln := { item := sPen, p := 1 + (k : Int), c := 3, k := 1, s := 0, b := 0, a := 0, r := 0 }
theorem zIx {k : Nat} (h : k < 40) : (wg k).good := by
 refine ⟨⟨?_, ?_, ?_, ?_, ?_, ?_⟩, show wq sPen = true by decide, show (sPen.cps.all fun x => decide (x < 128)) = true by decide +kernel⟩
 ·show (1 : Int) <= 1 + (k : Int); omega
 ·show 1 + (k : Int) <= 1000000; omega
 ·show (0 : Int) <= 3; decide
 ·show (3 : Int) <= 1000000000; decide
 ·show (1 : Int) <= 1; decide
 ·show (1 : Int) <= 1000; decide
inductive BgI (U : Sto) (ro : Nat -> Role) (i b e h a : Nat) (s c n : V) (j : Nat) : List V -> Sto -> Prop
 | mk (U' : Sto) (ro' : Nat -> Role) (us : List Or) (hs rs : List V) (x5 x6 x7 : V) (W : Bk U' ro' i b e h a us hs rs) (f : Fr (jt i) U ro U' ro') (hu : us.length = j) (hr : ∀ u ∈ us, u.rows.length <= 2 * j) (hh : hs.length <= 2 * j) : BgI U ro i b e h a s c n j [.ref b, .ref a, s, c, n, x5, x6, x7] U'
noncomputable def body122 : List CS := match f12_119.body with
 | [_, _, _, .for _ _ _ b, _] => b
 | _ => []
theorem zFx {α : Type} {l : List α} {o : Nat} {x : α} (h : l[o]? = some x) : atI l (o : Int) = some x := by
 unfold atI
 rw [if_pos (in_iff.mpr ⟨o, rfl, (List.getElem?_eq_some_iff.mp h).1⟩)]; exact h
theorem zCk {x : Role} (h : jt i x) : (x.tag <= 6 /\ x.ix = i) \/ x.tag = 8 := by
 rcases h with rfl | rfl | h | rfl
 ·exact .inl ⟨show 1 <= 6 by decide, rfl⟩
 ·exact .inl ⟨show 2 <= 6 by decide, rfl⟩
 ·exact .inl ⟨(wd h).1.2, (wd h).2⟩
 ·exact .inr rfl
theorem wS : ¬ jt i .other := fun h => by
 rcases zCk h with ⟨h, _⟩ | h
 ·exact absurd h (show ¬ 9 <= 6 by decide)
 ·exact absurd h (show ¬ 9 = 8 by decide)
inductive zFt (U : Sto) (ro : Nat -> Role) (i b e h a : Nat) (us : List Or) (hl j d : Nat) (xs : List V) : Prop
 | mk (U2 : Sto) (ro2 : Nat -> Role) (hs₂ rs₂ : List V) (e1 : ∀ {x2 x3 x4 x5 x6 : V}, exL (zA T12 (d + 6) false) (zA T12 (d + 6) true) false zCz [.ref b, .ref a, x2, x3, x4, x5, x6, (Deed.ord [wg j]).v] (U ++ [.list xs]) = .ok (.next [.ref b, .ref a, x2, x3, x4, x5, x6, (Deed.ord [wg j]).v]) U2) (h1 : U2[U.length]? = some (.list xs)) (W : Bk U2 ro2 i b e h a (us ++ [yn [wg j]]) hs₂ rs₂) (f : Fr (jt i) U ro U2 ro2) (hh : hs₂.length = hl + 1) (r : ro2 U.length = .other)
theorem Step.ord_inv {ls : List Ln} {out : List (Int × Int)} (S : Step us (.ord ls) us' out) : us' = us ++ [yn ls] := by cases S; rfl
theorem zLh {j : Nat} (W : Bk U ro i b e h a us hs rs) (D1 : (Deed.ord [wg j]).fit us) (h1 : ∀ u ∈ us, u.rows.length < LIM) (h2 : us.length < LIM) (h3 : hs.length < LIM) (xs : List V) : zFt U ro i b e h a us hs.length j d xs := by
 have f1 : Fr (jt i) U ro (U ++ [.list xs]) (put ro U.length .other) := wv _ _
 have W1 : Bk (U ++ [.list xs]) (put ro U.length .other) i b e h a us hs rs := W.keep (P := fun _ => False) (wv _ _) fun _ _ h => h
 have ac := zJA (d := d) (d2 := d + 3) W1 (.ord [wg j]) D1 rfl h1 h2 h3 fun _ _ => .val _
 cases ac with
 | mk U1 U2 v w ro2 us2 out hs₂ _ e1 _ _ rs₂ e2 S W2 f2 hl =>
 have g := f2 U.length _ (by rw [zKi]; exact wS) zh
 exact ⟨U2, ro2, hs₂, rs₂, zDc W1.B.isInst e1 e2, g.1, S.ord_inv ▸ W2, f1.trans f2, hl, g.2.trans zKi⟩
inductive zI9 (U : Sto) (U0 : Sto) (ro0 : Nat -> Role) (i b e h a : Nat) (s c n : V) (j d : Nat) (D : Deed) : Prop
 | mk (U3 : Sto) (e3 : ∀ {x2 x3 x4 x5 x7 : V}, exS (zA T12 (d + 6) false) (zA T12 (d + 6) true) false (.for 7 .val [.var 6] zCz) [.ref b, .ref a, x2, x3, x4, x5, .ref U.length, x7] (U ++ [.list [(Deed.ord [wg j]).v, D.v]]) = .ok (.next [.ref b, .ref a, x2, x3, x4, x5, .ref U.length, D.v]) U3) (I : ∀ {x5 x6 x7 : V}, BgI U0 ro0 i b e h a s c n (j + 1) [.ref b, .ref a, s, c, n, x5, x6, x7] U3)
theorem ka {j x : Nat} (hj : j < 40) (h : x <= 2 * j + 1) : x < LIM := Nat.lt_trans (show x < 100 by omega) (by decide)
theorem zEc {s c n : V} {j : Nat} {U0 : Sto} {ro0 : Nat -> Role} {D : Deed} (hj : j < 40) (f : Fr (jt i) U0 ro0 U ro) (hl1 : (us ++ [yn [wg j]]).length = j + 1) (hr1 : ∀ u ∈ us ++ [yn [wg j]], u.rows.length <= 2 * j) (hh : hs.length <= 2 * j) (F : zFt U ro i b e h a us hs.length j d [(Deed.ord [wg j]).v, D.v]) (hn : ∀ ls, D ≠ .ord ls) (he : D.err (us ++ [yn [wg j]]) = none) : zI9 U U0 ro0 i b e h a s c n j d D := by
 cases F with
 | mk U2 ro2 hs₂ rs₂ e1 h1 W2 f2 hl2 r2 =>
 have ac := zJA (d := d) (d2 := d + 3) W2 D (Deed.fit_of hn) he (fun u hu => ka hj (Nat.le_succ_of_le (hr1 u hu))) (hl1.symm ▸ ka hj (Nat.succ_le_succ (Nat.le_mul_of_pos_left j (by decide)))) (hl2.symm ▸ ka hj (Nat.succ_le_succ hh)) fun _ _ => .val _
 cases ac with
 | mk U1 U3 v w ro3 us3 out hs₃ _ g1 _ _ rs3 g2 S W3 f3 hl3 =>
 have k := f3 U.length _ (by rw [r2]; exact wS) h1
 exact ⟨U3, zMG rfl zh e1 h1 (zDc W2.B.isInst g1 g2) k.1, .mk U3 ro3 us3 hs₃ rs3 _ _ _ W3 (f.trans (f2.trans f3)) ((S.same_len hn).trans hl1) (fun u hu => Nat.le_trans (S.rows hr1 u hu) (Nat.le_succ _)) (hl3.symm ▸ hl2.symm ▸ Nat.add_le_add_right hh 2)⟩
theorem zKB {j : Nat} (hz : (j : Int).fmod 3 = ((2 : Nat) : Int)) : 1 <= j := by
 cases j with
 | zero => exact absurd hz (by decide)
 | succ j => omega
theorem zNe {j : Nat} {us : List Or} (h : us[j]? = some (yn [wg j])) : (Deed.lin .del (j : Int) 0 (1 + (j : Int).fdiv 2)).err us = none := by
 show zHG .del 0 _ (atI _ (j : Int)) = none
 rw [zFx h]
 show wF (1 + (j : Int).fdiv 2) (1 + (j : Int) - 0 + 0) = none
 unfold wF
 rw [Int.fdiv_eq_ediv_of_nonneg _ (by decide), if_neg (by omega), if_neg (by omega)]
theorem zJh {j : Nat} {us : List Or} (h1 : 1 <= j) (h : us[j]? = some (yn [wg j])) : (Deed.pay (j : Int) (5 * (j : Int))).err us = none := by
 show zBz _ (atI _ (j : Int)) = none
 rw [zFx h]
 show (if 5 * (j : Int) < 1 then some Cls.NoNumber else none) = none
 rw [if_neg (by omega)]
inductive zM1 (U U0 : Sto) (ro0 : Nat -> Role) (i b e h a : Nat) (s c n : V) (j d : Nat) (J : List V) : Prop
 | mk (J' : List V) (U' : Sto) (er : exL (zA T12 (d + 6) false) (zA T12 (d + 6) true) false body122 (J.set 5 (.int j)) U = .ok (.next J') U') (I : BgI U0 ro0 i b e h a s c n (j + 1) J' U')
theorem zBG {F Fq : Calls} {x7 x6 s c n : V} {j : Nat} {r : R Fl} (kk : exL F Fq false (body122.drop 1) [.ref b, .ref a, s, c, n, .int j, .ref U.length, x7] (U ++ [.list [(Deed.ord [wg j]).v]]) = r) : exL F Fq false body122 [.ref b, .ref a, s, c, n, .int j, x6, x7] U = r :=
 zG (v := .ref U.length) (U' := U ++ [O.list [(Deed.ord [wg j]).v]]) rfl kk
theorem zBu {F Fq : Calls} {x7 s c n v x : V} {y : CE} {dv : V} {rest : List CS} {r : R Fl} (hx : evE F false y [.ref b, .ref a, s, c, n, x, .ref U.length, x7] (U ++ [.list [v]]) = .ok dv (U ++ [.list [v]])) (kk : exL F Fq false rest [.ref b, .ref a, s, c, n, x, .ref U.length, x7] (U ++ [.list [v, dv]]) = r) :
  exL F Fq false (.exp (.append (.var 6) y) :: rest) [.ref b, .ref a, s, c, n, x, .ref U.length, x7] (U ++ [.list [v]]) = r :=
 yP (yC (x := .ref U.length) rfl (by show (xT _).isSome = true; rw [zh]; rfl) hx (zm _ zh (show 1 < LIM by decide))) (by rw [wJ]; exact kk)
theorem kM {F : Calls} {s c n x6 x7 : V} {j z : Nat} (hz : (j : Int).fmod 3 = (z : Int)) (U : Sto) (q : Int) : evC F false (some (.p2 .eq (.p2 .mod (.var 5) (.lit (.int 3))) (.lit (.int q)))) [.ref b, .ref a, s, c, n, .int j, x6, x7] U = .ok ((z : Int) == q) U := zE (zD (zD rfl rfl (by rw [xq U _ 3 rfl, hz])) rfl rfl)
theorem zE3 {s c n : V} {j : Nat} {J : List V} {U0 : Sto} {ro0 : Nat -> Role} (hj : j < 40) (I : BgI U0 ro0 i b e h a s c n j J U) : zM1 U U0 ro0 i b e h a s c n j d J := by
 cases I with
 | mk _ ro us hs rs x5 x6 x7 W f hu hr hh =>
 have first := zLh (d := d) W (j := j) ⟨by show 1 <= 1; decide, by show 1 <= 20; decide, fun l hl => by rw [List.mem_singleton.mp hl]; exact zIx hj, hu ▸ hj⟩ (fun u hu => ka hj (Nat.le_succ_of_le (hr u hu))) (hu ▸ ka hj (Nat.le_succ_of_le (Nat.le_mul_of_pos_left j (by decide)))) (ka hj (Nat.le_succ_of_le hh))
 have hlast : (us ++ [yn [wg j]])[j]? = some (yn [wg j]) := by rw [List.getElem?_append_right (Nat.le_of_eq hu), hu, Nat.sub_self]; rfl
 have hr1 : ∀ u ∈ us ++ [yn [wg j]], u.rows.length <= 2 * j := fun u hm => (List.mem_append.mp hm).elim (hr u) fun hm => List.mem_singleton.mp hm ▸ Nat.zero_le _
 have hlen1 : (us ++ [yn [wg j]]).length = j + 1 := by rw [List.length_append, hu]; rfl
 obtain ⟨z, hz, hz3⟩ := jO (j : Int) (m := 3) (by decide)
 have hz : (j : Int).fmod 3 = (z : Int) := hz
 match z, hz3, hz with
 | 0, _, hz =>
  cases first [(Deed.ord [wg j]).v] with
  | mk U2 ro2 hs₂ rs₂ e1 h1 W2 f2 hl2 r2 =>
  exact ⟨_, U2, zBG (s_f (kM hz _ 1) (s_f (kM hz _ 2) (xb (zMF rfl zh e1 h1) vC))), .mk U2 ro2 _ hs₂ rs₂ _ _ _ W2 (f.trans f2) hlen1 (fun u hu => Nat.le_trans (hr1 u hu) (Nat.mul_le_mul_left 2 (Nat.le_succ j))) (hl2.symm ▸ Nat.le_succ_of_le (Nat.succ_le_succ hh))⟩
 | 1, _, hz =>
  cases zEc hj f hlen1 hr1 hh (first _) (D := .lin .del (j : Int) 0 (1 + (j : Int).fdiv 2)) (fun _ h => nomatch h) (zNe hlast) with
  | mk U3 e3 I3 =>
  exact ⟨_, U3, zBG (s_t (kM hz _ 1) (zBu (yt (zC rfl (zC rfl (zC rfl (zC (zD rfl (zD rfl rfl (wG _ _ 2 rfl)) rfl) rfl))))) (s_f (kM hz _ 2) (xb e3 vC)))), I3⟩
 | 2, _, hz =>
  cases zEc hj f hlen1 hr1 hh (first _) (D := .pay (j : Int) (5 * (j : Int))) (fun _ h => nomatch h) (zJh (zKB hz) hlast) with
  | mk U3 e3 I3 =>
  exact ⟨_, U3, zBG (s_f (kM hz _ 1) (s_t (kM hz _ 2) (zBu (yt (zC rfl (zC rfl (zC (zD rfl rfl (yI _ 5 j (.inl rfl))) rfl)))) (xb e3 vC)))), I3⟩
 | z + 3, hz3, _ => exact absurd hz3 (by omega)
inductive zLD (U : Sto) (ro : Nat -> Role) (i b e h a : Nat) (r : R V) : Prop
 | mk (U' : Sto) (ro' : Nat -> Role) (us : List Or) (hs rs : List V) (er : r = .ok (.ref b) U') (W : Bk U' ro' i b e h a us hs rs) (f : Fr (jt i) U ro U' ro') (hu : us.length < 40) (hr : ∀ u ∈ us, u.rows.length <= 80) (hh : hs.length <= 80)
theorem zP5 (W : Bk U ro i b e h a [] [] rs) (l : List Int) : zLD U ro i b e h a (zA T12 (d + 7) false 119 [.ref b, .ref a, .lst (iv l)] U) := by
 have pre : ∃ n : Nat, n < 40 /\ ∀ {r : R Fl}, exL (zA T12 (d + 6) false) (zA T12 (d + 6) true) false (f12_119.body.drop 3) [.ref b, .ref a, .lst (iv l), .int (gI l 0), .int n, .undef, .undef, .undef] U = r -> exL (zA T12 (d + 6) false) (zA T12 (d + 6) true) false f12_119.body [.ref b, .ref a, .lst (iv l), .undef, .undef, .undef, .undef, .undef] U = r := by
  have p1 : ∀ {r : R Fl}, exL (zA T12 (d + 6) false) (zA T12 (d + 6) true) false (f12_119.body.drop 2) [.ref b, .ref a, .lst (iv l), .int (gI l 0), .int 0, .undef, .undef, .undef] U = r -> exL (zA T12 (d + 6) false) (zA T12 (d + 6) true) false f12_119.body [.ref b, .ref a, .lst (iv l), .undef, .undef, .undef, .undef, .undef] U = r := fun kk =>
   zG (zK rfl (zNl modTab12 l 0)) (zG rfl kk)
  cases ht : (((gI l 0 * 48271).fmod 10133).fmod 6 == 1) with
  | false => exact ⟨0, by decide, fun kk => p1 (s_f (zE (t := false) (zD (xD (c := gI l 0) rfl rfl rfl rfl rfl) rfl (by rw [xP, ht]))) kk)⟩
  | true =>
   obtain ⟨n, hn, hn2⟩ := jO ((gI l 0 * 48271).fmod 10139) (m := 40) (by decide)
   have hn : ((gI l 0 * 48271).fmod 10139).fmod 40 = (n : Int) := hn
   exact ⟨n, hn2, fun kk => p1 (s_t (zE (t := true) (zD (xD (c := gI l 0) rfl rfl rfl rfl rfl) rfl (by rw [xP, ht]))) (zG (v := .int n) (by rw [<- hn]; exact xD (c := gI l 0) rfl rfl rfl rfl rfl) kk))⟩
 obtain ⟨n, hn, pre⟩ := pre
 obtain ⟨J', U', e, I⟩ := wH (F := zA T12 (d + 6) false) (Fq := zA T12 (d + 6) true) (i := 5) (k := .range1) (src := [.var 4]) (body := body122) (J := [.ref b, .ref a, .lst (iv l), .int (gI l 0), .int n, .undef, .undef, .undef]) (vs := [.int n]) (U := U) (U1 := U) (it := .now (za 0 n)) (xs := za 0 n)
  (BgI U ro i b e h a (.lst (iv l)) (.int (gI l 0)) (.int n)) rfl (zv _ (by rw [Int.natAbs_natCast]; exact Nat.le_trans (Nat.le_of_lt hn) (by decide))) (fun _ _ _ _ => .inl rfl) (.mk U ro [] [] rs _ _ _ W .refl rfl (fun u hu => nomatch hu) (Nat.zero_le _)) fun j x J U' hx I => by
   obtain ⟨rfl, hj⟩ := xa hx
   obtain ⟨J', U', er, I⟩ := zE3 (Nat.lt_trans hj hn) I
   exact ⟨J', U', er, I⟩
 rw [wj] at I
 cases I with
 | mk _ ro' us hs rs x5 x6 x7 W' f hu hr hh =>
 exact .mk U' ro' us hs rs (zH (fn := f12_119) rfl rfl (pre (xb e rfl))) W' f (by rw [hu]; exact hn) (fun u hm => Nat.le_trans (hr u hm) (Nat.mul_le_mul_left 2 (Nat.le_of_lt hn))) (Nat.le_trans hh (Nat.mul_le_mul_left 2 (Nat.le_of_lt hn)))
end
end Mine
end

section
namespace Mine
open PySem
section
variable {d : Nat} {U U' : Sto} {ro ro' : Nat -> Role} {i j a b e h o r m k : Nat} {us us' : List Or} {hs rs xs : List V} {u : Or} {F Fq : Calls} {kp : List (Nat × List V)} {out : List (Int × Int)} {D : Deed}
theorem zP8 (B : BookIn U b e h (us.map Or.v) hs) {x : Int} (hx : (decide (0 <= x) && decide (x < ((us.map Or.v).length : Int))) = false) {w : Nat} (hw : w < 5) : zA T12 (d + 3) false 123 [.ref b, .int w, .int x] U = .exc .NoOrder U := by
 have g11 : zA T12 (d + 2) false 11 [.ref b, .int x] U = .exc .NoOrder U := zb (fn := zFB) rfl rfl (xd yJ B rfl rfl hx)
 have g12 : zA T12 (d + 2) false 12 [.ref b, .int x] U = .exc .NoOrder U := zb (fn := zJm) rfl rfl (xd yJ B rfl rfl hx)
 have g13 : zA T12 (d + 2) false 13 [.ref b, .int x] U = .exc .NoOrder U := zb (fn := zJn) rfl rfl (xd yJ B rfl rfl hx)
 have g14 : zA T12 (d + 2) false 14 [.ref b, .int x] U = .exc .NoOrder U := zb (fn := zFC) rfl rfl (xd yJ B rfl rfl hx)
 have g15 : zA T12 (d + 2) false 15 [.ref b, .int x] U = .exc .NoOrder U := zb (fn := zFD) rfl rfl (xd yJ B rfl rfl hx)
 refine zb (fn := zGL) rfl rfl ?_
 match w, hw with
 | 0, _ => exact s_t rfl (zBd (zS rfl B.isInst rfl g11))
 | 1, _ => exact s_f rfl (s_t rfl (zBd (zS rfl B.isInst rfl g12)))
 | 2, _ => exact s_f rfl (s_f rfl (s_t rfl (zBd (zS rfl B.isInst rfl g13))))
 | 3, _ => exact s_f rfl (s_f rfl (s_f rfl (s_t rfl (zBd (zS rfl B.isInst rfl g14)))))
 | 4, _ => exact s_f rfl (s_f rfl (s_f rfl (s_f rfl (zBd (zS rfl B.isInst rfl g15)))))
 | w + 5, hw => exact absurd hw (by omega)
theorem zNK (B : BookIn U b e h (us.map Or.v) hs) {x : Int} (hx : (decide (0 <= x) && decide (x < ((us.map Or.v).length : Int))) = false) : zA T12 (d + 4) false 124 [.ref b, .int x] U = .ok (.bool true) U := by
 obtain ⟨J', U', ef, y2, y3, y4, rfl, rfl⟩ := wH (F := zA T12 (d + 3) false) (Fq := zA T12 (d + 3) true) (i := 2) (k := .range1) (src := [.lit (.int 5)]) (body := match f12_124.body with
   | .for _ _ _ b :: _ => b
   | _ => []) (J := [.ref b, .int x, .undef, .undef, .undef]) (vs := [.int 5]) (U := U) (U1 := U) (it := .now (za 0 (5 : Nat))) (xs := za 0 (5 : Nat))
  (fun _ J U' => ∃ y2 y3 y4, J = [.ref b, .int x, y2, y3, y4] /\ U' = U) rfl rfl (fun _ _ _ _ => .inl rfl) ⟨_, _, _, rfl, rfl⟩ fun j y J U' hy hI => by
   obtain ⟨y2, y3, y4, rfl, rfl⟩ := hI
   obtain ⟨rfl, hj⟩ := xa hy
   have eb : evE (zA T12 (d + 3) false) false (.call 123 [.var 0, .var 2, .var 1]) [.ref b, .int x, .int j, .int 0, y4] U' = .exc .NoOrder U' := zK rfl (zP8 B hx hj)
   refine ⟨[.ref b, .int x, .int j, .int 2, .undef], U', zG (v := .int 0) rfl ?_, _, _, _, rfl, rfl⟩
   show exL _ _ false [.try .exp (.call 123 [.var 0, .var 2, .var 1]) _, _] [.ref b, .int x, .int j, .int 0, y4] U' = _
   rw [yS, zLC, if_neg (by decide), eb]; rfl
 exact zH (fn := f12_124) rfl rfl (xb ef rfl)
theorem zAG {x y : Nat} (h : x <= y) (hy : y < LIM) : x < LIM := Nat.lt_of_le_of_lt h hy
theorem zLn {j n : Nat} (h : j < n / 2) : 2 * j + 1 < n := by omega
theorem zJz {t n : Nat} (h : 2 * t + 1 < n) (hn : n <= 63) : t <= 31 := by omega
theorem zNa {J : List V} {l : List Int} {k : Nat} (h0 : zI J 0 = some (.lst (iv l))) (h4 : zI J 4 = some (.int (k : Int))) (hk : 2 * k < l.length) : evE F false (.p2 .index (.var 0) (.p2 .mul (.lit (.int 2)) (.var 4))) J U = .ok (.int (gI l (2 * k))) U :=
 zD (by rw [zp, h0]; rfl) (zD rfl (by rw [zp, h4]; rfl) (by rw [yI U 2 k (.inl rfl), show (2 * (k : Int)) = ((2 * k : Nat) : Int) from rfl])) (xK U hk)
theorem zO2 {J : List V} {l : List Int} {k : Nat} (h0 : zI J 0 = some (.lst (iv l))) (h4 : zI J 4 = some (.int (k : Int))) (hk : 2 * k + 1 < l.length) : evE F false (.p2 .index (.var 0) (.p2 .add (.p2 .mul (.lit (.int 2)) (.var 4)) (.lit (.int 1)))) J U = .ok (.int (gI l (2 * k + 1))) U :=
 zD (by rw [zp, h0]; rfl) (zD (zD rfl (by rw [zp, h4]; rfl) (yI U 2 k (.inl rfl))) rfl (by rw [zC9, show (2 * (k : Int) + 1) = ((2 * k + 1 : Nat) : Int) from rfl])) (xK U hk)
noncomputable def kr : List CS := match f12_125.body with
 | [_, _, _, .for _ _ _ b, _, _, _] => b
 | _ => []
noncomputable def atE : CE := match kr with
 | [_, _, .ite _ [_, .asg _ c, _] _] => c
 | _ => .lit .none
theorem Deed.varRaw5 {J : List V} (h : J[5]? = some (D.raw k)) : evE F false (.var 5) J U = .ok (D.raw k) U := Deed.varRaw h
theorem zLI {s x4 x6 x7 : V} (A : Acct U ro i a us' rs) (S : Step us D us' out) : ∃ j : Nat, j < us'.length /\ evE F false atE [s, .ref a, .ref m, .ref b, x4, D.raw k, x6, x7] U = .ok (.int j) U := by
 have ln : ∀ {v : V}, evE F false (.p2 .sub (.p1 .len (.var 1)) (.lit (.int 1))) [s, .ref a, .ref m, .ref b, x4, v, x6, x7] U = .ok (.int ((us'.length : Int) - 1)) U := zD (A.e_len rfl) rfl (zA1 U _ _)
 cases S with
 | ord ls =>
  refine ⟨us.length, by rw [List.length_append]; exact Nat.lt_succ_self _, zD (xl (zC (zD (z := .ref k) rfl rfl rfl) (zC ln rfl))) (ze (zD (z := .bool true) (zD (z := .str kF) rfl rfl rfl) rfl rfl) rfl) ?_⟩
  rw [List.length_append]
  show some (V.int (((us.length + 1 : Nat) : Int) - 1)) = _
  rw [Int.natCast_add, Int.add_sub_assoc]; exact congrArg (fun x => some (V.int x)) (Int.add_zero _)
 | pay o n u hu h1 => exact ⟨o, by rw [List.length_set]; exact (List.getElem?_eq_some_iff.mp hu).1, zD (xl (zC (zD (z := .int o) rfl rfl rfl) (zC ln rfl))) (ze (zD (z := .bool false) (zD (z := .str wM) rfl rfl rfl) rfl rfl) rfl) rfl⟩
 | ref o n u hu h1 h2 => exact ⟨o, by rw [List.length_set]; exact (List.getElem?_eq_some_iff.mp hu).1, zD (xl (zC (zD (z := .int o) rfl rfl rfl) (zC ln rfl))) (ze (zD (z := .bool false) (zD (z := .str jy) rfl rfl rfl) rfl rfl) rfl) rfl⟩
 | mov o p n u u' hu hu' hop h1 h2 => exact ⟨o, by unfold kj; rw [List.length_set, List.length_set]; exact (List.getElem?_eq_some_iff.mp hu).1, zD (xl (zC (zD (z := .int o) rfl rfl rfl) (zC ln rfl))) (ze (zD (z := .bool false) (zD (z := .str yW) rfl rfl rfl) rfl rfl) rfl) rfl⟩
 | lin w o k n u l hu hl h1 h2 => exact ⟨o, by rw [List.length_set]; exact (List.getElem?_eq_some_iff.mp hu).1, zD (xl (zC (zD (z := .int o) rfl rfl rfl) (zC ln rfl))) (ze (zD (z := .bool false) (zD (z := .str w.s) rfl rfl rfl) rfl (zCu w)) rfl) rfl⟩
end
end Mine
end

section
namespace Mine
open PySem
section
variable {d : Nat} {U U' : Sto} {ro ro' : Nat -> Role} {i j a b e h o r m k : Nat} {us us' : List Or} {hs rs xs : List V} {u : Or} {F Fq : Calls} {kp : List (Nat × List V)} {out : List (Int × Int)} {D : Deed}
theorem zNV {c : Cls} (hc : zA7 c = true) : ev2 .eq U (.str (zC3 c)) (.str { cps := #[] }) = some (.bool false) := by
 cases c <;> first | rfl | cases hc
inductive I12 (s : V) (t n : Nat) : List V -> Sto -> Prop
 | mk (U : Sto) (ro : Nat -> Role) (us : List Or) (hs rs : List V) (kp : List (Nat × List V)) (x4 x5 x6 x7 : V) (W : Bk U ro 0 2 3 4 0 us hs rs) (K : KpL U ro 1 kp) (hu : us.length <= 40) (hr : ∀ u ∈ us, u.rows.length <= 80 + t) (hh : hs.length <= 80 + t) (hk : kp.length <= n) : I12 s t n [s, .ref 0, .ref 1, .ref 2, x4, x5, x6, x7] U
inductive zMt (U : Sto) (ro : Nat -> Role) (us : List Or) (hs rs : List V) (kp : List (Nat × List V)) (r : R V) : Prop
 | mk (D : Deed) (k : Nat) (U1 : Sto) (ro1 : Nat -> Role) (er : r = .ok (D.raw k) U1) (hf : D.fit us) (h4 : ∀ ls, D = .ord ls -> us.length < 4 /\ U1[k]? = some (.list (ls.map Ln.raw)) /\ k ≠ 3 /\ k ≠ 4) (W : Bk U1 ro1 0 2 3 4 0 us hs rs) (K : KpL U1 ro1 1 kp)
theorem zNY (W : Bk U ro 0 2 3 4 0 us hs rs) (K : KpL U ro 1 kp) (c c2 : Int) : zMt U ro us hs rs kp (zA T12 (d + 4) false 109 [.int c, .int c2, .ref 0] U) := by
 have hdr := zNm (d := d) modTab12 W.A W.ok c c2
 cases hdr with
 | ord ls hf h4 er =>
  have l3 : 3 < U.length := (List.getElem?_eq_some_iff.mp W.B.ent).1
  have l4 : 4 < U.length := (List.getElem?_eq_some_iff.mp W.B.his).1
  exact .mk (.ord ls) U.length _ (put ro U.length .other) er hf (fun ls' q => by cases q; exact ⟨h4, zh, (Nat.ne_of_lt l3).symm, (Nat.ne_of_lt l4).symm⟩) (W.keep (P := fun _ => False) (wv _ _) (fun _ _ h => h)) (K.keep (P := fun _ => False) (wv _ _) (fun h => h) (fun h => h))
 | oth D hn er => exact .mk D 0 U ro (by rw [er, Deed.raw_of hn]) (Deed.fit_of hn) (fun ls q => (hn ls q).elim) W K
theorem zBa : ¬ jt i .kept := fun h => by
 rcases zCk h with ⟨h, _⟩ | h
 ·exact absurd h (show ¬ 7 <= 6 by decide)
 ·exact absurd h (show ¬ 7 = 8 by decide)
theorem zOV {l : List Int} {t : Nat} {J : List V} (hj : 2 * t + 1 < l.length) (hl : l.length <= 63) (I : I12 (.lst (iv l)) t (3 * t) J U) : ∃ J' U', exL (zA T12 (d + 7) false) (zA T12 (d + 7) true) false kr (J.set 4 (.int t)) U = .ok (.next J') U' /\ I12 (.lst (iv l)) (t + 1) (3 * (t + 1)) J' U' := by
 have ht := zJz hj hl
 have h80 : 80 + t < LIM := zAG (Nat.add_le_add_left ht 80) (by decide)
 cases I with
 | mk _ ro us hs rs kp x4 x5 x6 x7 W K hu hr hh hk =>
 have hd := zNY (d := d + 3) W K (gI l (2 * t)) (gI l (2 * t + 1))
 cases hd with
 | mk D k U1 ro1 e1 hf h4 W1 K1 =>
 have hrow : ∀ u ∈ us, u.rows.length < LIM := fun u hm => zAG (hr u hm) h80
 have hlu : us.length < LIM := zAG hu (by decide)
 have hhl : hs.length < LIM := zAG hh h80
 have pre : ∀ {v : V} {U2 : Sto} {s : Str} {r : R Fl}, zA T12 (d + 7) false 114 [.ref 2, D.v] U1 = .ok v U2 -> zA T12 (d + 7) false 110 [D.raw k, .ref 0] U2 = .ok (.str s) U2 ->
   exL (zA T12 (d + 7) false) (zA T12 (d + 7) true) false [.ite (.p2 .eq (.lit (.str s)) (.lit (.str { cps := #[] }))) (match kr with | [_, _, .ite _ x _] => x | _ => []) []] [.lst (iv l), .ref 0, .ref 1, .ref 2, .int t, D.raw k, x6, x7] U2 = r -> exL (zA T12 (d + 7) false) (zA T12 (d + 7) true) false kr [.lst (iv l), .ref 0, .ref 1, .ref 2, .int t, x5, x6, x7] U = r := fun {v U2 s r} g1 g2 kk => by
  refine zG (zK (zC (zNa rfl rfl (Nat.lt_of_succ_lt hj)) (zC (zO2 rfl rfl hj) (zC rfl rfl))) e1) (yP (zK (zC rfl (zC (zK (zC (Deed.varRaw5 rfl) rfl) (zJt (T := T12) rfl D fun ls q => (h4 ls q).2.1)) rfl)) g1) ?_)
  rw [yS] at kk ⊢
  have ec : ∀ c : CE, evE (zA T12 (d + 7) false) false c [.lst (iv l), .ref 0, .ref 1, .ref 2, .int t, D.raw k, x6, x7] U2 = .ok (.str s) U2 -> exS (zA T12 (d + 7) false) (zA T12 (d + 7) true) false (.ite (.p2 .eq c (.lit (.str { cps := #[] }))) (match kr with | [_, _, .ite _ x _] => x | _ => []) []) [.lst (iv l), .ref 0, .ref 1, .ref 2, .int t, D.raw k, x6, x7] U2 = exS (zA T12 (d + 7) false) (zA T12 (d + 7) true) false (.ite (.p2 .eq (.lit (.str s)) (.lit (.str { cps := #[] }))) (match kr with | [_, _, .ite _ x _] => x | _ => []) []) [.lst (iv l), .ref 0, .ref 1, .ref 2, .int t, D.raw k, x6, x7] U2 := fun c hc => by
   rw [zEy, zEy, zI5, zI5, hc]; rfl
  have := ec (.call 110 [.var 5, .var 1]) (zK (zC (Deed.varRaw5 rfl) (zC rfl rfl)) g2)
  exact (congrArg (fun z => R.bind z (zEn (zA T12 (d + 7) false) (zA T12 (d + 7) true) false [])) this).trans kk
 cases he : D.err us with
 | some c =>
  have hc := Deed.told he
  have er : zA T12 (d + 6) false 2 [.ref 2, D.v] U1 = .exc c U1 := by
   cases zPI (T := T12) (d := d) yJ W1.B W1.ok hrow hhl D hf with
   | no c' er he' => rw [he] at he'; cases he'; exact er
   | yes U' us' out hs er he' S B hl hk => rw [he] at he'; cases he'
  have e3 := zB3 (d := d + 3) modTab12 W1.A W1.ok W1.one D k
  rw [he] at e3
  refine ⟨_, U1, pre (zJv (T := T12) rfl W1.B.isInst hc er Deed.read) e3 (s_f (zE (zD rfl rfl (zNV hc))) vC), .mk U1 ro1 us hs rs kp _ _ _ _ W1 K1 hu (fun u hm => Nat.le_succ_of_le (hr u hm)) (Nat.le_succ_of_le hh) (Nat.le_trans hk (Nat.mul_le_mul_left 3 (Nat.le_succ t)))⟩
 | none =>
  have ac := zJA (d := d) (d2 := d + 4) (dv := D.raw k) W1 D hf he hrow hlu hhl fun U2 hk2 => .raw D fun ls q => hk2 k _ (h4 ls q).2.2.1 (h4 ls q).2.2.2 (h4 ls q).2.1
  cases ac with
  | mk U2 U3 v w ro3 us' out hs' rs₂ g1 A1 k1 rs3 g2 S W3 f3 hl3 =>
  have e3 := zB3 (d := d + 3) modTab12 A1 W1.ok W1.one D k
  rw [he] at e3
  have K3 := K1.keep f3 wS zBa
  have hr3 : ∀ u ∈ us', u.rows.length <= 80 + (t + 1) := S.rows hr
  have hu3 : us'.length <= 40 := by
   rcases D.ord_or with hn | ⟨ls, hq⟩
   ·rw [S.same_len hn]; exact hu
   ·rw [S.ord_len hq]; exact Nat.le_trans (h4 ls hq).1 (by decide)
  obtain ⟨jj, hjj, ea⟩ := zLI (F := zA T12 (d + 7) false) (s := .lst (iv l)) (m := 1) (b := 2) (x4 := .int t) (x6 := x6) (x7 := x7) (k := k) W3.A S
  have hst := zO0 (d := d + 3) (o := jj) W3 K3 hjj (zAG (Nat.add_le_add_right (Nat.le_trans hk (Nat.mul_le_mul_left 3 ht)) 3) (by decide)) fun u hm => Nat.le_trans (hr3 u hm) (Nat.le_trans (Nat.add_le_add_left (Nat.succ_le_succ ht) 80) (by decide))
  cases hst with
  | mk U4 ro4 kp₄ e5 W4 K4 f4 hl4 =>
  refine ⟨_, U4, pre (zLm (T := T12) rfl W1.B.isInst g1 Deed.read) e3 (s_t rfl (yP (zK (zC (Deed.varRaw5 rfl) (zC rfl rfl)) g2) (zG ea (s_f (zE (ze (zK rfl e5) rfl)) vC)))), .mk U4 ro4 us' hs' rs3 kp₄ _ _ _ _ W4 K4 hu3 hr3 (hl3.symm ▸ Nat.succ_le_succ hh) (hl4.symm ▸ Nat.add_le_add_right hk 3)⟩
end
end Mine
end

section
namespace Mine
open PySem
section
variable {d : Nat} {U U' : Sto} {ro ro' : Nat -> Role} {i j a b e h o r m k : Nat} {us us' : List Or} {hs rs xs : List V} {u : Or} {kp : List (Nat × List V)}
inductive E12 (s : V) (us : List Or) (hs rs : List V) (n : Nat) : List V -> Sto -> Prop
 | mk (U : Sto) (ro : Nat -> Role) (kp : List (Nat × List V)) (x4 x5 x6 x7 : V) (W : Bk U ro 0 2 3 4 0 us hs rs) (K : KpL U ro 1 kp) (hk : kp.length <= n) : E12 s us hs rs n [s, .ref 0, .ref 1, .ref 2, x4, x5, x6, x7] U
noncomputable def zNp : List CS := [.ite (.p1 .not (.call 121 [.var 3, .var 1, .var 6, .var 2])) [.ret (.lit (.bool false))] []]
theorem zO3 {s : V} {N : Nat} {J : List V} (hu : us.length <= 40) (hr : ∀ u ∈ us, u.rows.length <= 1000) (hN : N <= 1000) (I : E12 s us hs rs N J U) : ∃ J' U', exL (zA T12 (d + 7) false) (zA T12 (d + 7) true) false [.for 6 .range1 [.p1 .len (.var 1)] zNp] J U = .ok (.next J') U' /\ E12 s us hs rs (N + 120) J' U' := by
 cases I with
 | mk _ ro kp x4 x5 x6 x7 W K hk =>
 obtain ⟨J', U', ef, I⟩ := wH (F := zA T12 (d + 7) false) (Fq := zA T12 (d + 7) true) (i := 6) (k := .range1) (src := [.p1 .len (.var 1)]) (body := zNp) (J := [s, .ref 0, .ref 1, .ref 2, x4, x5, x6, x7]) (vs := [.int us.length]) (U := U) (U1 := U) (it := .now (za 0 us.length)) (xs := za 0 us.length)
  (fun j => E12 s us hs rs (N + 3 * j)) (zC (W.A.e_len rfl) rfl) (zv U (by rw [Int.natAbs_natCast]; exact Nat.le_trans hu (by decide))) (fun _ _ _ _ => .inl rfl) (.mk U ro kp x4 x5 x6 x7 W K hk) fun j x J U' hx hI => by
   obtain ⟨rfl, hj⟩ := xa hx
   cases hI with
   | mk _ ro kp x4 x5 x6 x7 W K hk =>
   have hst := zO0 (d := d + 3) (o := j) W K hj (zAG (Nat.add_le_add_right (Nat.le_trans hk (Nat.add_le_add hN (Nat.mul_le_mul_left 3 (Nat.le_trans (Nat.le_of_lt hj) hu)))) 3) (by decide)) hr
   cases hst with
   | mk U4 ro4 kp₄ e5 W4 K4 f4 hl4 =>
   exact ⟨_, U4, s_f (zE (ze (zK rfl e5) rfl)) vC, .mk U4 ro4 kp₄ _ _ _ _ W4 K4 (hl4.symm ▸ Nat.add_le_add_right hk 3)⟩
 rw [wj] at I
 refine ⟨J', U', xb ef vC, ?_⟩
 cases I with
 | mk _ ro kp x4 x5 x6 x7 W K hk => exact .mk U' ro kp _ _ _ _ W K (Nat.le_trans hk (Nat.add_le_add_left (Nat.mul_le_mul_left 3 hu) N))
noncomputable def zPh : Nat -> Role
 | 0 => .acc 0
 | 1 => .kept
 | 2 => .bk 0
 | 3 => .en 0
 | 4 => .hi 0
 | _ => .other
theorem law12 (l : List Int) (hl : l.length <= 63) : ∃ U, zA T12 (d + 8) false 125 [.lst (iv l)] [] = .ok (.bool true) U := by
 have hl2 : l.length / 2 <= 63 := Nat.le_trans (Nat.div_le_self _ _) hl
 have hn : (l.length : Int).fdiv 2 = ((l.length / 2 : Nat) : Int) := by rw [Int.fdiv_eq_ediv_of_nonneg _ (by decide)]; rfl
 generalize hU : kQ [O.list [], O.list []] = U0
 have W0 : Bk U0 zPh 0 2 3 4 0 [] [] [] := by
  rw [<- hU]
  exact ⟨zFV (U := [O.list [], O.list []]), rfl, rfl, rfl, ⟨rfl, rfl, rfl, (fun o u hu => by cases hu)⟩, (fun u hu => nomatch hu), (fun u hu => nomatch hu)⟩
 have K0 : KpL U0 zPh 1 [] := by rw [<- hU]; exact ⟨rfl, rfl, fun p hp => nomatch hp⟩
 have hb := zP5 (d := d) W0 l
 cases hb with
 | mk U1 ro1 us hs rs eb W1 f1 hu hr hh =>
 have K1 := K0.keep f1 wS zBa
 obtain ⟨J', U', e, I⟩ := wH (F := zA T12 (d + 7) false) (Fq := zA T12 (d + 7) true) (i := 4) (k := .range1) (src := [.p2 .fdiv (.p1 .len (.var 0)) (.lit (.int 2))]) (body := kr)
  (J := [.lst (iv l), .ref 0, .ref 1, .ref 2, .undef, .undef, .undef, .undef]) (vs := [.int ((l.length / 2 : Nat) : Int)]) (U := U1) (U1 := U1) (it := .now (za 0 ((l.length / 2 : Nat) : Int))) (xs := za 0 ((l.length / 2 : Nat) : Int))
  (fun j => I12 (.lst (iv l)) j (3 * j)) (zC (zD (ze rfl (zi _ (iv l))) rfl (by rw [wI, wG _ _ 2 rfl, hn])) rfl) (zv _ (by rw [Int.natAbs_natCast]; exact Nat.le_trans hl2 (by decide))) (fun _ _ _ _ => .inl rfl)
  (.mk U1 ro1 us hs rs [] _ _ _ _ W1 K1 (Nat.le_of_lt hu) (fun u hm => hr u hm) hh (Nat.zero_le _))
  fun j x J U hx I => by
   obtain ⟨rfl, hj⟩ := xa hx
   exact zOV (zLn hj) hl I
 rw [wj] at I
 cases I with
 | mk _ ro3 us3 hs₃ rs3 kp₃ x4 x5 x6 x7 W3 K3 hu3 hr3 hh3 hk3 =>
 obtain ⟨J'', U'', e', I'⟩ := wH (F := zA T12 (d + 7) false) (Fq := zA T12 (d + 7) true) (i := 7) (k := .range1) (src := [.lit (.int 2)]) (body := [.for 6 .range1 [.p1 .len (.var 1)] zNp]) (J := [.lst (iv l), .ref 0, .ref 1, .ref 2, x4, x5, x6, x7]) (vs := [.int 2]) (U := U') (U1 := U') (it := .now (za 0 (2 : Nat))) (xs := za 0 (2 : Nat))
  (fun j => E12 (.lst (iv l)) us3 hs₃ rs3 (3 * (l.length / 2) + 120 * j)) rfl rfl (fun _ _ _ _ => .inl rfl) (.mk U' ro3 kp₃ _ _ _ _ W3 K3 hk3) fun j x J U hx I => by
   obtain ⟨rfl, hj⟩ := xa hx
   cases I with
   | mk _ ro kp y4 y5 y6 y7 W K hk =>
   obtain ⟨J', U', e, I⟩ := zO3 (d := d) (s := .lst (iv l)) (N := 3 * (l.length / 2) + 120 * j) hu3 (fun u hm => Nat.le_trans (hr3 u hm) (Nat.le_trans (Nat.add_le_add_left hl2 80) (by decide))) (Nat.le_trans (Nat.add_le_add (Nat.mul_le_mul_left 3 hl2) (Nat.mul_le_mul_left 120 (Nat.le_of_lt_succ hj))) (by decide)) (.mk U ro kp y4 y5 y6 (.int j) W K hk)
   exact ⟨J', U', e, I⟩
 rw [wj] at I'
 cases I' with
 | mk _ ro4 kp₄ y4 y5 y6 y7 W4 K4 hk4 =>
 have hlen : ((us3.map Or.v).length : Int) = (us3.length : Int) := by rw [List.length_map]
 have n1 := zNK (d := d + 3) W4.B (x := us3.length) (by rw [hlen, decide_eq_false (Int.lt_irrefl _), Bool.and_false])
 have n2 := zNK (d := d + 3) W4.B (x := -1) rfl
 have n3 := zNK (d := d + 3) W4.B (x := us3.length + 7) (by rw [hlen, decide_eq_false (p := (us3.length : Int) + 7 < us3.length) (Int.not_lt.mpr (Int.le_add_of_nonneg_right (by decide))), Bool.and_false])
 refine ⟨U'', zH (fn := f12_125) rfl rfl (zG (v := .ref 0) (U' := [O.list []]) rfl (zG (v := .ref 1) (U' := [O.list [], O.list []]) rfl (zG (v := .ref 2) (U' := U1) (zK (zC (zOw yJ) (zC rfl (zC rfl rfl))) (by rw [hU]; exact eb)) (xb (rest := f12_125.body.drop 4) e (xb (rest := f12_125.body.drop 5) e' (s_f (zE (ze (zK rfl (zP7 (d := d + 6) K4)) rfl)) (zJ ?_)))))))⟩
 exact zq (x := .bool true) (zK (zC rfl (zC (W4.A.e_len rfl) rfl)) n1) rfl (zq (x := .bool true) (zK rfl n2) rfl (zK (zC rfl (zC (zD (W4.A.e_len rfl) rfl (zC9 _ _ _)) rfl)) n3))
end
end Mine
end

section
open PySem PySem.W PyProof.Rows
namespace Mine
noncomputable def pRows : List (Str × Int) := [("order", 2), ("deliver", 4), ("back", 4), ("swap", 4), ("credit", 4), ("pay", 3), ("refund", 3), ("move", 4)]
noncomputable def zIv (P : Params) (ts : List (Nat × Nat)) : List DictEntry := (pRows.zip ts).map fun q => ⟨PyData.keyHash P q.1.1, .str q.1.1 q.2.1, .int q.1.2 q.2.2⟩
noncomputable def zGc (P : Params) (ts : List (Nat × Nat)) : Obj := { cls := .type "dict", data := .dict (zIv P ts).toArray 8 }
noncomputable def linedRows : List Str := ["deliver", "back", "swap", "credit"]
noncomputable def jR (ts : List Nat) : Obj := { cls := .type "tuple", data := .seq ((linedRows.zip ts).map fun q => Value.str q.1 q.2).toArray }
noncomputable def wc (h : Heap) (x : Str) : Option (Addr × List Value) := match h.nsMap mainGlobals x with
 | some (.ref a) => (h.get? a).bind fun o => match o.data with
  | .cls cd => if h.isNs cd.ns && (h.nsMap cd.ns "__class__").isNone then some (a, cd.mro) else none
  | _ => none
 | _ => none
theorem zEP {p q : Program} {loose : List Str} {Xt : Shared -> Bool} {α : Type} {Yf : Shared -> α} {Ya : World -> α} {N : Nat} {m0 : Nat} {ann : Option Value} {n M : Nat} {sc : World -> OsState -> Shared} {th : Thread}
  (e : opening p = plainProg p.main.scope.names) (hN : Nat.ble 600 N = true) (f : ∀ s, fenceModules? p s = some s)
  (size : ∀ w : World, ((boot_heap w.params).isNs mainGlobals && (Array.mk [] : Array GenState).size == 0, (boot_heap w.params).objs.size, (boot_heap w.params).nsMap mainGlobals "__annotations__") = (true, m0, ann))
  (run : ∀ (w : World) (os : OsState) (r : Shared), topRun treeTable p w m0 ann M (sc w os) th = some r -> topRun treeTable p w m0 ann (n + M) ⟨boot_heap w.params, Array.mk [], boot_drawn, boot_toks, os⟩ (topStub p) = some r) (le : Nat.ble (n + M) N = true)
  (looks : ∀ w : World, (fun os => (topRun treeTable p w m0 ann M (sc w os) th).map fun s₁ => ((staticsOk (importedModules p.main.body) (boot_heap w.params) s₁.heap && namesBound p s₁.heap && gensDone s₁ && laidKept (boot_heap w.params) s₁.heap),
    openSeen q loose (importedModules p.main.body) Xt true s₁, Yf s₁)) = fun _ => some (true, openGood q loose, Ya w)) : LeftO p q loose Xt Yf Ya N := fun w => by
 obtain ⟨⟨h, gs, d, k, os⟩, e1, e'⟩ := Option.map_eq_some_iff.mp (boot_open e hN f w)
 obtain ⟨rfl, rfl, rfl, rfl⟩ : h = boot_heap w.params /\ gs = Array.mk [] /\ d = boot_drawn /\ k = boot_toks := by simpa using e'
 obtain ⟨z1, z2, z3⟩ : _ /\ _ /\ _ := by simpa only [Prod.mk.injEq] using size w
 obtain ⟨s₁, r0, l0⟩ := Option.map_eq_some_iff.mp (congrFun (looks w) os)
 obtain ⟨l1, l2, l3⟩ : _ /\ _ /\ _ := by simpa only [Prod.mk.injEq] using l0
 have r := topRun_mono (N - (n + M)) _ _ _ _ (run w os s₁ r0)
 rw [show n + M + (N - (n + M)) = N by have := Nat.le_of_ble_eq_true le; omega] at r
 have t : topFrom treeTable p w N ⟨boot_heap w.params, Array.mk [], boot_drawn, boot_toks, os⟩ = some s₁ := by
  unfold topFrom
  dsimp only
  rw [z1, z2, z3, r]
  show (match staticsOk (importedModules p.main.body) (boot_heap w.params) s₁.heap && namesBound p s₁.heap && gensDone s₁ && laidKept (boot_heap w.params) s₁.heap with | true => _ | false => _) = _
  rw [l1]
 unfold openEnds
 rw [e1]
 show (topFrom treeTable p w N ⟨boot_heap w.params, Array.mk [], boot_drawn, boot_toks, os⟩).map _ = _
 rw [t]
 show some (openSeen q loose (importedModules p.main.body) Xt true s₁, Yf s₁) = _
 rw [l2, l3]
section
variable {p : Program} {w : World} {m0 : Nat} {ann : Option Value} {env : Env} {q : Pos} {b : List Stmt}
theorem zHE {n0 nb n N i : Nat} {s0 s' r : Shared} {c : Code} {pos pb p' : Pos} (hc : c = .body b env)
  (pre : (topGo treeTable p w m0 ann n0 s0 (topStub p)).map (·.2) = some ⟨denote treeTable c, c, pos, [topFrame q]⟩)
  (blk : ((topGo treeTable p w m0 ann n0 s0 (topStub p)).bind fun x => segRun treeTable p w m0 ann 1 nb x.1 (blockOf b env c pos [topFrame q])).map (fun y => (y.1, y.2.2)) = some (.next, c, pb))
  (g : (((topGo treeTable p w m0 ann n0 s0 (topStub p)).bind fun x => segRun treeTable p w m0 ann 1 nb x.1 (blockOf b env c pos [topFrame q])).bind fun y => segRun treeTable p w m0 ann 1 n y.2.1 (piecesOf ((b.take i).drop 0) env c pb [topFrame q])) = some (.next, s', c, p'))
  (k : topRun treeTable p w m0 ann N s' (restOf (b.drop i) env c p' [topFrame q]) = some r) : topRun treeTable p w m0 ann (n0 + (nb + (n + N))) s0 (topStub p) = some r := by
 obtain ⟨⟨sa, ta⟩, a1, a2⟩ := Option.map_eq_some_iff.mp pre
 have a2 : ta = _ := a2
 subst a2
 rw [a1] at blk g
 obtain ⟨⟨f1, sb, cb, pb'⟩, b1, b2⟩ := Option.map_eq_some_iff.mp blk
 cases b2
 have b1 : segRun treeTable p w m0 ann 1 nb sa (blockOf b env c pos [topFrame q]) = some (.next, sb, c, pb) := b1
 have g : ((segRun treeTable p w m0 ann 1 nb sa (blockOf b env c pos [topFrame q])).bind fun y => segRun treeTable p w m0 ann 1 n y.2.1 (piecesOf ((b.take i).drop 0) env c pb [topFrame q])) = _ := g
 rw [b1] at g
 have g : segRun treeTable p w m0 ann 1 n sb (piecesOf (b.take i) env c pb [topFrame q]) = some (.next, s', c, p') := g
 refine go_top a1 ?_
 have := piece_block b1 (k := by
  have := piece_app g k
  rwa [List.take_append_drop] at this)
 rwa [hc] at this ⊢
theorem jN {n N i j : Nat} {s s' r : Shared} {c : Code} {pos p' : Pos} (hij : i <= j) (g : segRun treeTable p w m0 ann 1 n s (piecesOf ((b.take j).drop i) env c pos [topFrame q]) = some (.next, s', c, p'))
  (k : topRun treeTable p w m0 ann N s' (restOf (b.drop j) env c p' [topFrame q]) = some r) : topRun treeTable p w m0 ann (n + N) s (restOf (b.drop i) env c pos [topFrame q]) = some r := by
 have e : b.drop i = (b.take j).drop i ++ b.drop j := by
  rw [List.drop_take]
  have : b.drop j = (b.drop i).drop (j - i) := by rw [List.drop_drop]; congr 1; omega
  rw [this, List.take_append_drop]
 rw [e]
 exact piece_app g k
end
end Mine
end

section
namespace Mine
open PySem PySem.W PyProof.Rows
inductive Says (P : Params) (pa la : Addr) (pt : List (Nat × Nat)) (lt : List Nat) (ms : List (Str × Addr × List Value)) (h : Heap) : Prop
 | mk (mg : Str -> Option Value) (N : h.Ns mainGlobals mg) (e1 : mg ("PARTS" : Str) = some (.ref pa)) (e2 : h.get? pa = some (zGc P pt)) (e3 : mg ("LINED" : Str) = some (.ref la)) (e4 : h.get? la = some (jR lt))
   (e5 : ∀ q ∈ ms, mg q.1 = some (.ref q.2.1) /\ ∃ o cd, h.get? q.2.1 = some o /\ o.data = .cls cd /\ cd.mro = q.2.2 /\ ∃ m, h.Ns cd.ns m /\ m "__class__" = none)
theorem zFU {h : Heap} {x : Str} {a : Addr} {m : List Value} (e : wc h x = some (a, m)) : h.nsMap mainGlobals x = some (.ref a) /\ ∃ o cd, h.get? a = some o /\ o.data = .cls cd /\ cd.mro = m /\ ∃ m, h.Ns cd.ns m /\ m "__class__" = none := by
 unfold wc at e
 split at e
 ·rename_i a' ha
  obtain ⟨o, ho, e⟩ := Option.bind_eq_some_iff.mp e
  split at e
  ·rename_i cd hd
   split at e
   ·rename_i hn
    cases e
    rw [Bool.and_eq_true] at hn
    exact ⟨ha, o, cd, ho, hd, rfl, _, .of_isNs hn.1, Option.isNone_iff_eq_none.mp hn.2⟩
   ·cases e
  ·cases e
 ·cases e
theorem zL9 {P : Params} {pa la : Addr} {pt : List (Nat × Nat)} {lt : List Nat} {ms : List (Str × Addr × List Value)} {h : Heap}
  (e : (h.isNs mainGlobals, h.nsMap mainGlobals "PARTS", h.get? pa, h.nsMap mainGlobals "LINED", h.get? la, ms.map fun q => wc h q.1) = (true, some (.ref pa), some (zGc P pt), some (.ref la), some (jR lt), ms.map fun q => some q.2)) : Says P pa la pt lt ms h := by
 simp only [Prod.mk.injEq] at e
 obtain ⟨h0, h1, h2, h3, h4, h5⟩ := e
 refine .mk _ (.of_isNs h0) h1 h2 h3 h4 fun q hq => ?_
 obtain ⟨x, a, m⟩ := q
 exact zFU (List.map_inj_left.mp h5 _ hq)
theorem Says.keeps {P : Params} {pa la : Addr} {pt : List (Nat × Nat)} {lt : List Nat} {ms : List (Str × Addr × List Value)} {h h' : Heap} (s : Says P pa la pt lt ms h) (k : ∀ b o, h.get? b = some o -> h'.get? b = some o) : Says P pa la pt lt ms h' := by
 obtain ⟨mg, ⟨o, es, ep, a, b⟩, e1, e2, e3, e4, e5⟩ := s
 exact .mk mg ⟨o, es, ep, k _ _ a, b⟩ e1 (k _ _ e2) e3 (k _ _ e4) fun q hq => by
  obtain ⟨h1, o, cd, h2, h3, h4, m, hN, hm⟩ := e5 q hq
  exact ⟨h1, o, cd, k _ _ h2, h3, h4, m, hN.keeps k, hm⟩
theorem zEW (P : Params) (x : Str) (ts : List (Nat × Nat)) (hl : ts.length = 8) : ∃ t, ((zIv P ts).find? fun e => Value.isStrOf x e.key).map (·.val) = ((partsTable.find? fun p => p.1 == x).map fun p => Value.int p.2 t) := by
 have key : ∀ (l : List ((Str × Int) × (Nat × Nat))), ∃ t, ((l.map fun q => (⟨PyData.keyHash P q.1.1, .str q.1.1 q.2.1, .int q.1.2 q.2.2⟩ : DictEntry)).find? fun e => Value.isStrOf x e.key).map (·.val) = (((l.map fun q => q.1).find? fun p => p.1 == x).map fun p => Value.int p.2 t) := by
  intro l
  induction l with
  | nil => exact ⟨0, rfl⟩
  | cons q l ih =>
   rw [List.map_cons, List.map_cons, List.find?_cons, List.find?_cons]
   have hq : Value.isStrOf x (Value.str q.1.1 q.2.1) = (q.1.1 == x) := rfl
   simp only [hq]
   cases h : (q.1.1 == x) with
   | true => exact ⟨q.2.2, rfl⟩
   | false => exact ih
 have := key (pRows.zip ts)
 rwa [show ((pRows.zip ts).map fun q => q.1) = partsTable from List.map_fst_zip (by rw [hl]; decide)] at this
theorem zIw {S : zO} {dA : Addr} {ts : List (Nat × Nat)} (hl : ts.length = 8) (hp : S.parts = .ref dA) (hd : (dA == sysModules) = false) (ho : S.hb.get? dA = some (zGc S.w.params ts)) : wl S S.hb := fun _ => by
 refine ⟨dA, fun x => ((zIv S.w.params ts).find? fun e => Value.isStrOf x e.key).map (·.val), hp, hd, ⟨_, (zIv S.w.params ts).toArray, 8, ho, ⟨rfl, rfl, rfl⟩, rfl, fun e he => ?_, fun k => ?_⟩, fun x => zEW _ x ts hl⟩
 ·have he : e ∈ zIv S.w.params ts := by simpa using he
  obtain ⟨q, _, rfl⟩ := List.mem_map.mp he
  exact ⟨_, beq_self_eq_true _, rfl⟩
 ·show ((zIv S.w.params ts).toArray.find? _).map _ = _
  rw [List.find?_toArray]; rfl
section
variable {p : Program} {loose : List Str} {mean : ExcName -> Option Value} {mg mb : Str -> Option Value} {S : zO}
theorem zCq {h : Heap} {a : Addr} {c0 : Value} {dd : Option Addr} {cd : ClassData} {sl : Array (Option Value)} {mA : Str -> Option Value} {tl : List Value} (hA : h.get? a = some { cls := c0, dict := dd, data := .cls cd, slots := sl }) (hN : h.Ns cd.ns mA) (hq : ∀ n ∈ quietNames, mA n = none) (hm : ∃ m, h.Ns cd.ns m /\ m "__class__" = none) (T : TailC h tl) : TailC h (.ref a :: tl) := by
 obtain ⟨m, h1, h2⟩ := hm
 obtain rfl : m = mA := by rw [h1.eq_nsMap, hN.eq_nsMap]
 refine .own hA hN (fun n hn => ?_) T
 simp only [zDt, List.mem_cons, List.not_mem_nil, or_false] at hn
 rcases hn with rfl | rfl | rfl
 ·exact hq _ (.tail _ (.head _))
 ·exact hq _ (.tail _ (.tail _ (.head _)))
 ·exact h2
noncomputable def zJU : Option Obj -> Option ClassData
 | some o => match o.data with
  | .cls cd => some cd
  | _ => none
 | none => none
theorem zMO {h : Heap} {a : Addr} {o : Obj} {cd : ClassData} (h1 : h.get? a = some o) (h2 : o.data = .cls cd) : zJU (h.get? a) = some cd := by
 rw [h1]
 show (match o.data with | .cls cd => some cd | _ => none) = _
 rw [h2]
theorem zJk (T : Top p loose mean mg mb S.hb) {x : Str} {c : Cls} {a : Addr} {bm : List Value} (hs : specOf p x = some ("ValueError.__new__", bmV)) (hg : mg x = some (.ref a)) (hm : ∃ o cd, S.hb.get? a = some o /\ o.data = .cls cd /\ cd.mro = .ref a :: bm /\ ∃ m, S.hb.Ns cd.ns m /\ m "__class__" = none)
  (ht : bm = bmV \/ ∃ b, bm = .ref b :: bmV /\ ∃ o cd, S.hb.get? b = some o /\ o.data = .cls cd /\ ∃ m, S.hb.Ns cd.ns m /\ m "__class__" = none)
  (hcl : S.cl c = .ref a) (hkn : ∀ d ∈ S.kn, (Value.ref a :: bm).contains (S.cl d) = c.sub d) : zBB S c := by
 obtain ⟨C, O, _⟩ := T.ownAt hs
 obtain ⟨hb', bm'', N', nm', q', bs', hdct', sn', sub', ab', col', dd', k0', k1', k2', k3', k5', mN', hC', hN', hi', OTQ⟩ := id O
 obtain ⟨hb, bm', N, nm, q, bs, hdct, sn, sub, ab, col, dd, k0, k1, k2, k3, k5, mN, hC, hN, hi, OT⟩ := O.own
 obtain rfl : C = a := by rw [hg] at hb; exact (Value.ref.inj (Option.some.inj hb)).symm
 obtain ⟨o, cd, h1, h2, h3, m, h4, h5⟩ := hm
 have e : some _ = some cd := (congrArg zJU hC).symm.trans (zMO h1 h2)
 have e := Option.some.inj e
 have hbm : bm' = bm := (List.cons.inj ((congrArg ClassData.mro e).trans h3)).2
 rw [<- congrArg ClassData.ns e] at h4
 subst hbm
 refine .mk C bm' N nm q bs hdct sn sub ab col dd k0 k1 k2 k3 k5 mN hcl hC hN hi OT hkn
  ?_
 have e' : some _ = some _ := (congrArg zJU hC).symm.trans (congrArg zJU hC')
 have e' := Option.some.inj e'
 have eN : N = N' := congrArg ClassData.ns e'
 have eB : bm' = bm'' := (List.cons.inj (congrArg ClassData.mro e')).2
 rw [<- eN] at hN'
 rw [<- eB] at OTQ
 refine zCq hC hN' hi' ⟨m, h4, h5⟩ ?_
 rcases ht with ht | ⟨b, ht, o, cd, g1, g2, g3⟩
 ·rw [ht]; exact .base
 ·rw [ht] at OTQ ⊢
  cases OTQ with
  | own hA hM hq _ =>
   have e2 : some _ = some cd := (congrArg zJU hA).symm.trans (zMO g1 g2)
   rw [<- Option.some.inj e2] at g3
   exact zCq hA hM hq g3 .base
theorem zJ7 {la : Addr} {lt : List Nat} (hl : lt.length = 4) (ho : S.hb.get? la = some (jR lt)) : VR S [] [] S.hb (.tup [.str { cps := #[100, 101, 108, 105, 118, 101, 114] }, .str { cps := #[98, 97, 99, 107] }, .str { cps := #[115, 119, 97, 112] }, .str { cps := #[99, 114, 101, 100, 105, 116] }]) (.ref la) := by
 match lt, hl with
 | [a, b, c, d], _ =>
  refine ⟨la, _, _, rfl, ⟨(fun h => nomatch h), (fun h => nomatch h)⟩, ho, ?_, by decide⟩
  have s : ∀ {x : Str} {t : Nat}, x.length <= LIM -> PyData.strOk x = true -> VR S [] [] S.hb (.str x) (.str x t) := fun h1 h2 => ⟨⟨_, rfl⟩, h1, h2⟩
  show VRs S [] [] S.hb _ [_, _, _, _]
  exact ⟨s (by decide) (by decide +kernel), s (by decide) (by decide +kernel), s (by decide) (by decide +kernel), s (by decide) (by decide +kernel), trivial⟩
end
end Mine
end

section
namespace Mine
open PySem PySem.W PyProof.Rows
noncomputable def zJ6 : V := .tup [.str { cps := #[100, 101, 108, 105, 118, 101, 114] }, .str { cps := #[98, 97, 99, 107] }, .str { cps := #[115, 119, 97, 112] }, .str { cps := #[99, 114, 101, 100, 105, 116] }]
inductive zAv (v : Program) (x : Str) : V -> Prop
 | int (i : Int) (h : valOf v x = some (.int i)) : zAv v x (.int i)
 | str (y : Str) (h : valOf v x = some (.str y)) (hl : y.length <= LIM) (hk : PyData.strOk y = true) : zAv v x (.str y)
structure Ex where
 name : Str
 c : Cls
 a : Addr
 bm : List Value
structure zFs (v : Program) (loose : List Str) (C : Ctx) (tM tF : List (Nat × Fn)) (base : List (Str × V)) (ex : List Ex) (cl : Cls -> Value) (kn : List Cls) (cb : ClsRec) : Prop where
 k1 : zPl C (recsOf v) = some tF
 k2 : zGM C (recsOf v) = true
 k3 : ((recsOf v).map (·.name)).Nodup
 k4 : zJs v loose C = true
 hc : C.consts = base ++ [(("PARTS" : Str), .parts), (("LINED" : Str), zJ6)]
 hb : ∀ q ∈ base, zAv v q.1 q.2
 hx : C.excs = ex.map fun q => (q.name, q.c)
 hs : ∀ q ∈ ex, specOf v q.name = some ("ValueError.__new__", bmV)
 hcl : ∀ q ∈ ex, cl q.c = .ref q.a
 hbm : ∀ q ∈ ex, q.bm = bmV \/ ∃ q' ∈ ex, q.bm = .ref q'.a :: bmV
 hkn : ∀ q ∈ ex, q.c ∈ kn /\ ∀ d ∈ kn, (Value.ref q.a :: q.bm).contains (cl d) = q.c.sub d
 m1 : cb ∈ plainsOf v loose
 m2 : cb.name = ("Book" : Str)
 m3 : zA6 C cb.meths = true
 m4 : (cb.meths.map (·.name)).Nodup
 m5 : zPm C cb.meths = some tM
 m6 : C.meths.lookup ("__init__" : Str) = some 0
 m7 : zQ 0 ∈ cb.withCmp.quiet /\ zQ 1 ∈ cb.withCmp.quiet
 at0 : C.attrs = attrNames
 cln : Clean C
theorem book_walk {v p : Program} {loose : List Str} {w : World} {s₁ : Shared} {mean : ExcName -> Option Value} {mg mb : Str -> Option Value} {C : Ctx} {tM tF : List (Nat × Fn)} {base : List (Str × V)} {ex : List Ex} {cl : Cls -> Value} {kn : List Cls} {cb : ClsRec} {pa la : Addr} {pt : List (Nat × Nat)} {lt : List Nat} {a fa : Addr} {ns : List Int} {d k : Nat}
  (BL : zFs v loose C tM tF base ex cl kn cb) (T : Top v loose mean mg mb s₁.heap) (TE : TopE v loose mg s₁.heap) (Y : Says w.params pa la pt lt (ex.map fun q => (q.name, q.a, .ref q.a :: q.bm)) s₁.heap) (hpt : pt.length = 8) (hlt : lt.length = 4) (hd : (pa == sysModules) = false)
  (hk : C.fns.find? (fun r => r.2 == k) = some (("law" : Str), k)) (hmg : mg ("law" : Str) = some (.ref fa)) (W : Well w.params s₁.heap (.ref a) (ofPy (.list (ns.map PyData.int)))) (hlen : ns.length <= 63) (hd1 : d <= 100)
  (hres : ∃ U', zA (fun k => (tM ++ tF).lookup k) d false k [.lst (ns.map V.int)] [] = .ok (.bool true) U') :
  codeAny (model p w) callerA (.call (.ref fa) ⟨[.ref a], []⟩) (fun r s' => r = .ok (.ret (.bool true)) /\ (∀ b o, s₁.heap.get? b = some o -> s'.heap.get? b = some o) /\ s'.os = s₁.os /\ s'.gens = s₁.gens) s₁ := by
 obtain ⟨mg', N', e1, e2, e3, e4, e5⟩ := Y
 obtain rfl : mg' = mg := by rw [N'.eq_nsMap, T.g.eq_nsMap]
 obtain ⟨Cb, N, mN, hCb, P⟩ := TE cb BL.m1
 rw [BL.m2] at hCb
 have key : ∀ S : zO, S.hb = s₁.heap -> S.fn = xm C mg' mN -> S.hasParts = true -> S.parts = .ref pa -> S.prog = p -> S.w = w -> S.cl = cl -> S.kn = kn -> S.book = Cb -> codeAny (model S.prog S.w) callerA (.call (.ref (S.fn k)) ⟨[.ref a], []⟩) (fun r s' => r = .ok (.ret (.bool true)) /\ (∀ b o, s₁.heap.get? b = some o -> s'.heap.get? b = some o) /\ s'.os = s₁.os /\ s'.gens = s₁.gens) s₁ := by
  intro S h1 h2 h3 h4 h5 h6 h7 h8 h9
  have TS : Top v loose mean mg' mb S.hb := h1 ▸ T
  have PS : PlainAt S.hb cb.withCmp Cb N mN := h1 ▸ P
  have hc : ∀ x u, C.consts.lookup x = some u -> ∃ w, mg' x = some w /\ VR S [] [] S.hb u w := fun x u h => by
   have hm := zR h
   rw [BL.hc] at hm
   rcases List.mem_append.mp hm with hm | hm
   ·have := BL.hb _ hm
    cases this with
    | int i hv =>
     obtain ⟨u, e, r⟩ := T.const _ _ hv
     have := r S.hb
     cases this
     exact ⟨_, e, ⟨_, rfl⟩⟩
    | str y hv hl hk =>
     obtain ⟨u, e, r⟩ := T.const _ _ hv
     have := r S.hb
     cases this
     exact ⟨_, e, ⟨⟨_, rfl⟩, hl, hk⟩⟩
   ·rcases List.mem_cons.mp hm with e | hm
    ·cases e; exact ⟨_, e1, ⟨h3, h4.symm⟩⟩
    ·cases List.mem_singleton.mp hm
     exact ⟨_, e3, zJ7 hlt (h1 ▸ e4)⟩
  have hex : ∀ x c, C.excs.lookup x = some c -> ∃ q ∈ ex, q.name = x /\ q.c = c := fun x c h => by
   have hm := zR h
   rw [BL.hx] at hm
   obtain ⟨q, hq, e⟩ := List.mem_map.mp hm
   cases e
   exact ⟨q, hq, rfl, rfl⟩
  have fa0 : ∀ k fn, (tM ++ tF).lookup k = some fn -> zE0 S C k fn := fun k fn h => by
   rcases List.mem_append.mp (zAp h) with hm | hm
   ·exact zHX PS BL.m3 h2 BL.m4 BL.m5 k fn hm
   ·exact zLj TS BL.k2 h2 BL.k3 BL.k1 k fn hm
  have fs := zJo (tab := tM ++ tF) TS BL.k2 h2 BL.k4 hc (fun _ => by rw [h9]; exact hCb) (.inr ⟨BL.at0, zLS PS h9 BL.m3 h2 BL.m6 BL.m7⟩)
   (fun x c h => by obtain ⟨q, hq, rfl, rfl⟩ := hex x c h; rw [h7, BL.hcl q hq]; exact .inl (e5 _ (List.mem_map_of_mem hq)).1)
   (fun x c h => by
    obtain ⟨q, hq, rfl, rfl⟩ := hex x c h
    have h5 := e5 _ (List.mem_map_of_mem hq)
    refine ⟨by rw [h8]; exact (BL.hkn q hq).1, fun _ => zJk TS (BL.hs q hq) h5.1 (h1 ▸ h5.2)
     ((BL.hbm q hq).imp id fun ⟨q', hq', e⟩ => ⟨q'.a, e, by obtain ⟨_, o, cd, g1, g2, _, g3⟩ := e5 _ (List.mem_map_of_mem hq'); exact ⟨o, cd, h1 ▸ g1, g2, h1 ▸ g3⟩⟩)
     (by rw [h7]; exact BL.hcl q hq) (by rw [h7, h8]; exact (BL.hkn q hq).2)⟩)
   (zIw hpt h4 hd (by rw [h1, h6]; exact e2)) (by rw [h4]; simp) fa0
  exact zJ3 fs BL.cln fa0 h1 hd1 (zGy (P := w.params) (h1 ▸ W) (by simp only [LIM]; omega)) hres
 have := key ⟨p, w, s₁.heap, cl, Cb, .ref pa, true, xm C mg' mN, kn⟩ rfl rfl rfl rfl rfl rfl rfl rfl rfl
 have ha : xm C mg' mN k = fa := by unfold xm; rw [hk]; show zEY _ = _; rw [hmg]; rfl
 simp only [ha] at this
 exact this
end Mine
end

section
open PySem PySem.W PyProof.Rows
set_option maxRecDepth 100000
namespace Mine
noncomputable def pw12 : Program := PySem.Challenge.pw_uf040020_12
noncomputable def wx (i : Nat) : Stmt := (pw12.main.body)[i]?.getD (.Pass ⟨0,0,0,0⟩)
noncomputable def zo (i j : Nat) : Stmt := match wx i with
 | .ClassDef _ _ _ b _ _ _ _ _ _ _ => b[j]?.getD (.Pass ⟨0,0,0,0⟩)
 | s => s
noncomputable def zL8 : Stmt -> Arguments
 | .FunctionDef _ a _ _ _ _ _ _ _ _ => a
 | _ => ⟨[],[],none,[],[],none,[]⟩
noncomputable def zPj : Stmt -> List Stmt
 | .FunctionDef _ _ b _ _ _ _ _ _ _ => b
 | _ => []
noncomputable def zOG : Stmt -> Scope
 | .FunctionDef _ _ _ _ _ _ sc _ _ _ => sc
 | _ => pw12.main.scope
noncomputable def ky (P : Params) (c : Array Nat) (t : Nat) (v : Value) : DictEntry := ⟨PyData.keyHash P ⟨c⟩,.str ⟨c⟩ t,v⟩
noncomputable def fo (c : Value) (a b : Array Nat) (S : Stmt) (g : Addr) (pm cd : Value) : Obj := { cls := c,dict := none,data := .func { name := ⟨a⟩,qualname := ⟨b⟩,params := zL8 S,body := .stmts (zPj S),scope := zOG S,globals := g,closure := [],defaults := .none,kwdefaults := .none,doc := .none,pyModule := pm,annotations := none,code := cd,closureTuple := .none,builtins := 0 },slots := #[] }
noncomputable def ob (c : Value) (d : Data) : Obj := { cls := c,dict := none,data := d,slots := #[] }
noncomputable def cd (a b : Array Nat) (n : Nat) (l c e : Int) (r : Nat) (t : Bool) (g : Nat) (x y z u : Value) (m : Nat) : Obj := ob (.type "code") (.fields #[.str ⟨a⟩ n,.str ⟨b⟩ (n + 1),.str ⟨#[47,99,108,97,105,109,47,99,117,116,46,112,121]⟩ (n + 2),.int l 0,.int c 0,.int 0 0,.int 0 0,.int e 0,.ref r,.bool t,.int 181 0,.ref g,x,y,z,u,.int m 0,.int l 0,.str ⟨#[47,99,108,97,105,109,47,99,117,116,46,112,121]⟩ (m + 1)])
noncomputable def fm (a b c : Nat) (s : Array Nat) (n : Nat) : Obj := { cls := .type "frame",dict := none,data := .plain,slots := #[some (.ref a),some (.ref b),some (.ref c),none,some (.str ⟨s⟩ n),none,some (.ref 0)] }
noncomputable def tx (a : Array Nat) (k n s i j : Nat) : Obj := { cls := .type "type",dict := none,data := .cls { name := ⟨a⟩,bases := [.ref 31],mro := [.ref k,.ref 31,.type "ValueError",.type "Exception",.type "BaseException",.type "object"],ns := n,qualname := ⟨a⟩,hasDict := true,slotNames := [],subclasses := [],abstract := false,collection := none,hasDel := false },slots := #[some (.ref s),none,some (.str ⟨a⟩ i),some (.str ⟨a⟩ j),some (.builtin "ValueError.__new__"),some (.bool true)] }
noncomputable def t3 (l : List (Int × Int × Nat)) : Array Value := (l.flatMap fun x => [.int x.1 0,.int x.2.1 0,.ref x.2.2]).toArray
noncomputable def q0 : Array Nat := #[111,114,100,101,114,102,108,111,119,46,101,114,114,111,114,115]
noncomputable def q7 : Array Nat := #[95,95,115,116,97,116,105,99,95,97,116,116,114,105,98,117,116,101,115,95,95]
noncomputable def q8 : Array Nat := #[95,95,102,105,114,115,116,108,105,110,101,110,111,95,95]
noncomputable def q9 : Array Nat := #[111,114,100,101,114,102,108,111,119,46,98,111,111,107]
noncomputable def q10 : Array Nat := #[95,95,109,111,100,117,108,101,95,95]
noncomputable def q11 : Array Nat := #[70,108,111,119,69,114,114,111,114]
noncomputable def q12 : Array Nat := #[95,95,113,117,97,108,110,97,109,101,95,95]
noncomputable def q13 : Array Nat := #[111,114,100,101,114,102,108,111,119,46,108,105,110,101,115]
noncomputable def q14 : Array Nat := #[95,95,100,111,99,95,95]
noncomputable def q15 : Array Nat := #[99,104,101,99,107,95,108,105,110,101,115]
noncomputable def q16 : Array Nat := #[95,95,97,110,110,111,116,97,116,105,111,110,115,95,95]
noncomputable def q17 : Array Nat := #[70,117,108,108,66,111,111,107]
noncomputable def q18 : Array Nat := #[78,111,76,105,110,101,115]
noncomputable def q19 : Array Nat := #[78,111,78,117,109,98,101,114]
noncomputable def q20 : Array Nat := #[83,97,109,101,79,114,100,101,114]
noncomputable def q21 : Array Nat := #[47,99,108,97,105,109,47,99,117,116,46,112,121]
noncomputable def q22 : Array Nat := #[115,101,108,102]
noncomputable def q23 : Array Nat := #[105,115,95,105,116,101,109]
noncomputable def q24 : Array Nat := #[109,111,115,116,95,111,102]
noncomputable def q25 : Array Nat := #[95,95,98,117,105,108,116,105,110,115,95,95]
noncomputable def q26 : Array Nat := #[78,111,79,114,100,101,114]
noncomputable def q27 : Array Nat := #[109,97,116,99,104,101,100]
noncomputable def q28 : Array Nat := #[95,119,97,108,108]
noncomputable def q29 : Array Nat := #[78,111,68,101,101,100]
noncomputable def q30 : Array Nat := #[97,98,99,100,101,102,103,104,105,106,107,108,109,110,111,112,113,114,115,116,117,118,119,120,121,122]
noncomputable def q31 : Array Nat := #[98,101,104,105,110,100]
noncomputable def q32 : Array Nat := #[95,95,112,97,99,107,97,103,101,95,95]
noncomputable def q33 : Array Nat := #[78,111,73,116,101,109]
noncomputable def q34 : Array Nat := #[99,104,97,114,103,101]
noncomputable def q35 : Array Nat := #[84,111,111,77,117,99,104]
noncomputable def q36 : Array Nat := #[95,95,108,111,97,100,101,114,95,95]
noncomputable def q37 : Array Nat := #[119,111,114,116,104]
noncomputable def q38 : Array Nat := #[95,95,99,97,99,104,101,100,95,95]
noncomputable def q39 : Array Nat := #[78,111,76,105,110,101]
noncomputable def q40 : Array Nat := #[98,101,103,117,110]
noncomputable def q41 : Array Nat := #[95,95,119,101,97,107,114,101,102,95,95]
noncomputable def q42 : Array Nat := #[95,95,102,105,108,101,95,95]
noncomputable def q43 : Array Nat := #[95,95,105,110,105,116,95,95]
noncomputable def q44 : Array Nat := #[115,101,116,116,108,101,100]
noncomputable def q45 : Array Nat := #[95,95,110,97,109,101,95,95]
noncomputable def q46 : Array Nat := #[95,95,115,112,101,99,95,95]
noncomputable def q47 : Array Nat := #[66,111,111,107,46,95,95,105,110,105,116,95,95]
noncomputable def q48 : Array Nat := #[66,111,111,107,46,115,101,116,116,108,101,100]
noncomputable def q49 : Array Nat := #[66,111,111,107]
noncomputable def q50 : Array Nat := #[111,114,100,101,114]
noncomputable def q51 : Array Nat := #[66,111,111,107,46,111,114,100,101,114,115]
noncomputable def q52 : Array Nat := #[111,114,100,101,114,115]
noncomputable def q53 : Array Nat := #[66,111,111,107,46,99,104,97,110,103,101]
noncomputable def q54 : Array Nat := #[66,111,111,107,46,112,97,121,95,105,110]
noncomputable def q55 : Array Nat := #[99,104,97,110,103,101]
noncomputable def q56 : Array Nat := #[112,97,121,95,105,110]
noncomputable def q57 : Array Nat := #[66,111,111,107,46,98,101,103,105,110]
noncomputable def q58 : Array Nat := #[66,111,111,107,46,99,104,101,99,107]
noncomputable def q59 : Array Nat := #[108,105,110,101]
noncomputable def q60 : Array Nat := #[66,111,111,107,46,110,101,101,100]
noncomputable def q61 : Array Nat := #[66,111,111,107,46,109,111,115,116]
noncomputable def q62 : Array Nat := #[66,111,111,107,46,116,117,114,110]
noncomputable def q63 : Array Nat := #[66,111,111,107,46,117,110,100,111]
noncomputable def q64 : Array Nat := #[66,111,111,107,46,116,111,108,100]
noncomputable def q65 : Array Nat := #[66,111,111,107,46,111,119,101,100]
noncomputable def q66 : Array Nat := #[66,111,111,107,46,114,111,119,115]
noncomputable def q67 : Array Nat := #[98,101,103,105,110]
noncomputable def q68 : Array Nat := #[66,111,111,107,46,112,97,105,100]
noncomputable def q69 : Array Nat := #[99,104,101,99,107]
noncomputable def q70 : Array Nat := #[66,111,111,107,46,110,101,116]
noncomputable def q71 : Array Nat := #[119,111,114,100]
noncomputable def q72 : Array Nat := #[110,101,101,100]
noncomputable def q73 : Array Nat := #[109,111,115,116]
noncomputable def q74 : Array Nat := #[116,117,114,110]
noncomputable def q75 : Array Nat := #[117,110,100,111]
noncomputable def q76 : Array Nat := #[116,111,108,100]
noncomputable def q77 : Array Nat := #[111,119,101,100]
noncomputable def q78 : Array Nat := #[114,111,119,115]
noncomputable def q79 : Array Nat := #[112,97,105,100]
noncomputable def q80 : Array Nat := #[66,111,111,107,46,100,111]
noncomputable def q81 : Array Nat := #[100,101,101,100]
noncomputable def q82 : Array Nat := #[110,101,116]
noncomputable def zLv (P : Params) : Obj := ob (.type "dict") (.dict #[(ky P q45 165 (.str ⟨q0⟩ 194)),(ky P q14 166 .none),(ky P q32 167 .none),(ky P q36 168 (.builtin "__main__.__loader__#opaque")),(ky P q46 169 .none),(ky P q16 170 (.ref 6)),(ky P q25 171 (.ref 4)),(ky P q42 173 (.str ⟨q21⟩ 172)),(ky P q38 174 .none),(ky P q28 193 (.ref 21)),(ky P q11 213 (.ref 31)),(ky P q29 229 (.ref 44)),(ky P q18 245 (.ref 56))] 13)
noncomputable def zKI (P : Params) : Obj := ob .none (.fields (t3 [(1,0,20),(5,0,27),(7,0,40),(9,0,52)]))
noncomputable def vN (P : Params) : Obj := cd #[60,109,111,100,117,108,101,62] #[60,109,111,100,117,108,101,62] 182 1 0 0 11 false 12 .none .none .none .none 185
noncomputable def vO (P : Params) : Obj := fm 13 3 3 #[95,95,109,97,105,110,95,95] 164
noncomputable def vP (P : Params) : Obj := ob (.type "tuple") (.seq #[(.str ⟨#[107]⟩ 190)] 0)
noncomputable def vQ (P : Params) : Obj := fo .none q28 q28 (wx 0) 0 .none .none
noncomputable def vR (P : Params) : Obj := cd q28 q28 187 1 1 3 15 true 16 .none (.ref 17) (.ref 18) (.ref 19) 191
noncomputable def vS (P : Params) : Obj := fo (.type "function") q28 q28 (wx 0) 3 (.str ⟨#[95,95,109,97,105,110,95,95]⟩ 164) (.ref 20)
noncomputable def vT (P : Params) : Obj := ob (.type "tuple") (.seq #[(.type "ValueError")] 0)
noncomputable def zL (P : Params) : Obj := ob (.type "builtin_function_or_method") (.fields #[(.builtin "type.__prepare__"),(.type "type")])
noncomputable def vU (P : Params) : Obj := ob (.type "dict") (.dict #[(ky P q10 203 (.str ⟨q0⟩ 194)),(ky P q12 205 (.str ⟨q11⟩ 204)),(ky P q8 207 (.int (5) 206)),(ky P q7 208 (.ref 29))] 4)
noncomputable def vV (P : Params) : Obj := cd q11 q11 198 5 0 0 25 false 26 .none .none .none .none 201
noncomputable def vW (P : Params) : Obj := fm 27 3 24 q0 194
noncomputable def vX (P : Params) : Obj := ob (.type "dict") (.dict #[(ky P q10 203 (.str ⟨q0⟩ 194)),(ky P q8 207 (.int (5) 206)),(ky P q7 208 (.ref 29)),(ky P q41 210 (.ref 32)),(ky P q14 211 .none)] 3)
noncomputable def zKN (P : Params) : Obj := { cls := (.type "type"),dict := none,data := (.cls { name := ⟨q11⟩,bases := [(.type "ValueError")],mro := [(.ref 31),(.type "ValueError"),(.type "Exception"),(.type "BaseException"),(.type "object")],ns := 30,qualname := ⟨q11⟩,hasDict := true,slotNames := [],subclasses := [(.ref 44),(.ref 56)],abstract := false,collection := none,hasDel := false }),slots := #[(some (.ref 22)),none,(some (.str ⟨q11⟩ 196)),(some (.str ⟨q11⟩ 204)),(some (.builtin "ValueError.__new__")),(some (.bool true))] }
noncomputable def vY (P : Params) : Obj := ob (.type "getset_descriptor") (.fields #[(.str ⟨q41⟩ 209),(.ref 31),(.builtin "ExceptionGroup.__weakref__"),.none])
noncomputable def vZ (P : Params) : Obj := ob (.type "super") (.fields #[(.ref 31),(.ref 31),(.ref 31)])
noncomputable def vd (P : Params) : Obj := ob (.type "builtin_function_or_method") (.fields #[(.builtin "object.__init_subclass__"),(.ref 31)])
noncomputable def zM (P : Params) : Obj := ob (.type "tuple") (.seq #[(.ref 31)] 0)
noncomputable def vf (P : Params) : Obj := ob (.type "dict") (.dict #[(ky P q10 221 (.str ⟨q0⟩ 194)),(ky P q12 223 (.str ⟨q29⟩ 222)),(ky P q8 225 (.int (7) 224)),(ky P q7 226 (.ref 42))] 4)
noncomputable def vg (P : Params) : Obj := cd q29 q29 216 7 0 0 38 false 39 .none .none .none .none 219
noncomputable def vj (P : Params) : Obj := fm 40 3 37 q0 194
noncomputable def vm (P : Params) : Obj := ob (.type "dict") (.dict #[(ky P q10 221 (.str ⟨q0⟩ 194)),(ky P q8 225 (.int (7) 224)),(ky P q7 226 (.ref 42)),(ky P q14 227 .none)] 2)
noncomputable def vn (P : Params) : Obj := tx q29 44 43 35 214 222
noncomputable def vp (P : Params) : Obj := ob (.type "super") (.fields #[(.ref 44),(.ref 44),(.ref 44)])
noncomputable def vq (P : Params) : Obj := ob (.type "builtin_function_or_method") (.fields #[(.builtin "object.__init_subclass__"),(.ref 44)])
noncomputable def vt (P : Params) : Obj := ob (.type "dict") (.dict #[(ky P q10 237 (.str ⟨q0⟩ 194)),(ky P q12 239 (.str ⟨q18⟩ 238)),(ky P q8 241 (.int (9) 240)),(ky P q7 242 (.ref 54))] 4)
noncomputable def vw (P : Params) : Obj := cd q18 q18 232 9 0 0 50 false 51 .none .none .none .none 235
noncomputable def vx (P : Params) : Obj := fm 52 3 49 q0 194
noncomputable def vy (P : Params) : Obj := ob (.type "dict") (.dict #[(ky P q10 237 (.str ⟨q0⟩ 194)),(ky P q8 241 (.int (9) 240)),(ky P q7 242 (.ref 54)),(ky P q14 243 .none)] 2)
noncomputable def vz (P : Params) : Obj := tx q18 56 55 47 230 238
noncomputable def kA (P : Params) : Obj := ob (.type "super") (.fields #[(.ref 56),(.ref 56),(.ref 56)])
noncomputable def kB (P : Params) : Obj := ob (.type "builtin_function_or_method") (.fields #[(.builtin "object.__init_subclass__"),(.ref 56)])
noncomputable def zPK (P : Params) : Heap := ⟨⟨[boot_o_0 P,boot_o_1 P,boot_o_2 P,zLv P,boot_o_4 P,boot_o_5 P,boot_o_6 P,boot_o_7 P,boot_o_8 P,boot_o_9 P,boot_o_10 P,boot_o_7 P,zKI P,vN P,vO P,boot_o_7 P,boot_o_8 P,vP P,boot_o_7 P,vQ P,vR P,vS P,vT P,zL P,vU P,boot_o_7 P,boot_o_8 P,vV P,vW P,boot_o_7 P,vX P,zKN P,vY P,vZ P,vd P,zM P,zL P,vf P,boot_o_7 P,boot_o_8 P,vg P,vj P,boot_o_7 P,vm P,vn P,vp P,vq P,zM P,zL P,vt P,boot_o_7 P,boot_o_8 P,vw P,vx P,boot_o_7 P,vy P,vz P,kA P,kB P]⟩,{ registered := [],finalised := [],alive := [],known := 0,ids := [],orphanDicts := [],counting := false,cnt := #[],zero := [],soft := 0,below := false,collecting := false }⟩
noncomputable def zMi (w : World) (os : OsState) : Shared := ⟨zPK w.params,#[],⟨0,0,0,0⟩,246,os⟩
noncomputable def zLw (P : Params) : Obj := ob (.type "dict") (.dict #[(ky P q45 165 (.str ⟨q0⟩ 194)),(ky P q14 166 .none),(ky P q32 167 .none),(ky P q36 168 (.builtin "__main__.__loader__#opaque")),(ky P q46 169 .none),(ky P q16 170 (.ref 6)),(ky P q25 171 (.ref 4)),(ky P q42 173 (.str ⟨q21⟩ 172)),(ky P q38 174 .none),(ky P q28 193 (.ref 21)),(ky P q11 213 (.ref 31)),(ky P q29 229 (.ref 44)),(ky P q18 245 (.ref 56)),(ky P q33 261 (.ref 68)),(ky P q19 277 (.ref 80)),(ky P q17 293 (.ref 92)),(ky P q26 309 (.ref 104))] 17)
noncomputable def zKJ (P : Params) : Obj := ob .none (.fields (t3 [(1,0,20),(5,0,27),(7,0,40),(9,0,52),(11,0,64),(13,0,76),(15,0,88),(17,0,100)]))
noncomputable def zKO (P : Params) : Obj := { cls := (.type "type"),dict := none,data := (.cls { name := ⟨q11⟩,bases := [(.type "ValueError")],mro := [(.ref 31),(.type "ValueError"),(.type "Exception"),(.type "BaseException"),(.type "object")],ns := 30,qualname := ⟨q11⟩,hasDict := true,slotNames := [],subclasses := [(.ref 44),(.ref 56),(.ref 68),(.ref 80),(.ref 92),(.ref 104)],abstract := false,collection := none,hasDel := false }),slots := #[(some (.ref 22)),none,(some (.str ⟨q11⟩ 196)),(some (.str ⟨q11⟩ 204)),(some (.builtin "ValueError.__new__")),(some (.bool true))] }
noncomputable def jW (P : Params) : Obj := ob (.type "dict") (.dict #[(ky P q10 253 (.str ⟨q0⟩ 194)),(ky P q12 255 (.str ⟨q33⟩ 254)),(ky P q8 257 (.int (11) 256)),(ky P q7 258 (.ref 66))] 4)
noncomputable def jX (P : Params) : Obj := cd q33 q33 248 11 0 0 62 false 63 .none .none .none .none 251
noncomputable def jY (P : Params) : Obj := fm 64 3 61 q0 194
noncomputable def jZ (P : Params) : Obj := ob (.type "dict") (.dict #[(ky P q10 253 (.str ⟨q0⟩ 194)),(ky P q8 257 (.int (11) 256)),(ky P q7 258 (.ref 66)),(ky P q14 259 .none)] 2)
noncomputable def ja (P : Params) : Obj := tx q33 68 67 59 246 254
noncomputable def jb (P : Params) : Obj := ob (.type "super") (.fields #[(.ref 68),(.ref 68),(.ref 68)])
noncomputable def jc (P : Params) : Obj := ob (.type "builtin_function_or_method") (.fields #[(.builtin "object.__init_subclass__"),(.ref 68)])
noncomputable def jd (P : Params) : Obj := ob (.type "dict") (.dict #[(ky P q10 269 (.str ⟨q0⟩ 194)),(ky P q12 271 (.str ⟨q19⟩ 270)),(ky P q8 273 (.int (13) 272)),(ky P q7 274 (.ref 78))] 4)
noncomputable def je (P : Params) : Obj := cd q19 q19 264 13 0 0 74 false 75 .none .none .none .none 267
noncomputable def jf (P : Params) : Obj := fm 76 3 73 q0 194
noncomputable def jg (P : Params) : Obj := ob (.type "dict") (.dict #[(ky P q10 269 (.str ⟨q0⟩ 194)),(ky P q8 273 (.int (13) 272)),(ky P q7 274 (.ref 78)),(ky P q14 275 .none)] 2)
noncomputable def jh (P : Params) : Obj := tx q19 80 79 71 262 270
noncomputable def ji (P : Params) : Obj := ob (.type "super") (.fields #[(.ref 80),(.ref 80),(.ref 80)])
noncomputable def jk (P : Params) : Obj := ob (.type "builtin_function_or_method") (.fields #[(.builtin "object.__init_subclass__"),(.ref 80)])
noncomputable def jl (P : Params) : Obj := ob (.type "dict") (.dict #[(ky P q10 285 (.str ⟨q0⟩ 194)),(ky P q12 287 (.str ⟨q17⟩ 286)),(ky P q8 289 (.int (15) 288)),(ky P q7 290 (.ref 90))] 4)
noncomputable def jm (P : Params) : Obj := cd q17 q17 280 15 0 0 86 false 87 .none .none .none .none 283
noncomputable def jn (P : Params) : Obj := fm 88 3 85 q0 194
noncomputable def jo (P : Params) : Obj := ob (.type "dict") (.dict #[(ky P q10 285 (.str ⟨q0⟩ 194)),(ky P q8 289 (.int (15) 288)),(ky P q7 290 (.ref 90)),(ky P q14 291 .none)] 2)
noncomputable def jp (P : Params) : Obj := tx q17 92 91 83 278 286
noncomputable def jq (P : Params) : Obj := ob (.type "super") (.fields #[(.ref 92),(.ref 92),(.ref 92)])
noncomputable def jr (P : Params) : Obj := ob (.type "builtin_function_or_method") (.fields #[(.builtin "object.__init_subclass__"),(.ref 92)])
noncomputable def js (P : Params) : Obj := ob (.type "dict") (.dict #[(ky P q10 301 (.str ⟨q0⟩ 194)),(ky P q12 303 (.str ⟨q26⟩ 302)),(ky P q8 305 (.int (17) 304)),(ky P q7 306 (.ref 102))] 4)
noncomputable def kT (P : Params) : Obj := cd q26 q26 296 17 0 0 98 false 99 .none .none .none .none 299
noncomputable def kU (P : Params) : Obj := fm 100 3 97 q0 194
noncomputable def kW (P : Params) : Obj := ob (.type "dict") (.dict #[(ky P q10 301 (.str ⟨q0⟩ 194)),(ky P q8 305 (.int (17) 304)),(ky P q7 306 (.ref 102)),(ky P q14 307 .none)] 2)
noncomputable def kX (P : Params) : Obj := tx q26 104 103 95 294 302
noncomputable def kY (P : Params) : Obj := ob (.type "super") (.fields #[(.ref 104),(.ref 104),(.ref 104)])
noncomputable def kZ (P : Params) : Obj := ob (.type "builtin_function_or_method") (.fields #[(.builtin "object.__init_subclass__"),(.ref 104)])
noncomputable def zPL (P : Params) : Heap := ⟨⟨[boot_o_0 P,boot_o_1 P,boot_o_2 P,zLw P,boot_o_4 P,boot_o_5 P,boot_o_6 P,boot_o_7 P,boot_o_8 P,boot_o_9 P,boot_o_10 P,boot_o_7 P,zKJ P,vN P,vO P,boot_o_7 P,boot_o_8 P,vP P,boot_o_7 P,vQ P,vR P,vS P,vT P,zL P,vU P,boot_o_7 P,boot_o_8 P,vV P,vW P,boot_o_7 P,vX P,zKO P,vY P,vZ P,vd P,zM P,zL P,vf P,boot_o_7 P,boot_o_8 P,vg P,vj P,boot_o_7 P,vm P,vn P,vp P,vq P,zM P,zL P,vt P,boot_o_7 P,boot_o_8 P,vw P,vx P,boot_o_7 P,vy P,vz P,kA P,kB P,zM P,zL P,jW P,boot_o_7 P,boot_o_8 P,jX P,jY P,boot_o_7 P,jZ P,ja P,jb P,jc P,zM P,zL P,jd P,boot_o_7 P,boot_o_8 P,je P,jf P,boot_o_7 P,jg P,jh P,ji P,jk P,zM P,zL P,jl P,boot_o_7 P,boot_o_8 P,jm P,jn P,boot_o_7 P,jo P,jp P,jq P,jr P,zM P,zL P,js P,boot_o_7 P,boot_o_8 P,kT P,kU P,boot_o_7 P,kW P,kX P,kY P,kZ P]⟩,{ registered := [],finalised := [],alive := [],known := 0,ids := [],orphanDicts := [],counting := false,cnt := #[],zero := [],soft := 0,below := false,collecting := false }⟩
noncomputable def zMj (w : World) (os : OsState) : Shared := ⟨zPL w.params,#[],⟨0,0,0,0⟩,310,os⟩
noncomputable def zLx (P : Params) : Obj := ob (.type "dict") (.dict #[(ky P q45 165 (.str ⟨q0⟩ 194)),(ky P q14 166 .none),(ky P q32 167 .none),(ky P q36 168 (.builtin "__main__.__loader__#opaque")),(ky P q46 169 .none),(ky P q16 170 (.ref 6)),(ky P q25 171 (.ref 4)),(ky P q42 173 (.str ⟨q21⟩ 172)),(ky P q38 174 .none),(ky P q28 193 (.ref 21)),(ky P q11 213 (.ref 31)),(ky P q29 229 (.ref 44)),(ky P q18 245 (.ref 56)),(ky P q33 261 (.ref 68)),(ky P q19 277 (.ref 80)),(ky P q17 293 (.ref 92)),(ky P q26 309 (.ref 104)),(ky P q20 325 (.ref 116)),(ky P q39 341 (.ref 128)),(ky P q35 357 (.ref 140))] 20)
noncomputable def zKK (P : Params) : Obj := ob .none (.fields (t3 [(1,0,20),(5,0,27),(7,0,40),(9,0,52),(11,0,64),(13,0,76),(15,0,88),(17,0,100),(19,0,112),(21,0,124),(23,0,136)]))
noncomputable def zBZ (P : Params) : Obj := { cls := (.type "type"),dict := none,data := (.cls { name := ⟨q11⟩,bases := [(.type "ValueError")],mro := [(.ref 31),(.type "ValueError"),(.type "Exception"),(.type "BaseException"),(.type "object")],ns := 30,qualname := ⟨q11⟩,hasDict := true,slotNames := [],subclasses := [(.ref 44),(.ref 56),(.ref 68),(.ref 80),(.ref 92),(.ref 104),(.ref 116),(.ref 128),(.ref 140)],abstract := false,collection := none,hasDel := false }),slots := #[(some (.ref 22)),none,(some (.str ⟨q11⟩ 196)),(some (.str ⟨q11⟩ 204)),(some (.builtin "ValueError.__new__")),(some (.bool true))] }
noncomputable def zAK (P : Params) : Obj := ob (.type "dict") (.dict #[(ky P q10 317 (.str ⟨q0⟩ 194)),(ky P q12 319 (.str ⟨q20⟩ 318)),(ky P q8 321 (.int (19) 320)),(ky P q7 322 (.ref 114))] 4)
noncomputable def zAL (P : Params) : Obj := cd q20 q20 312 19 0 0 110 false 111 .none .none .none .none 315
noncomputable def zAM (P : Params) : Obj := fm 112 3 109 q0 194
noncomputable def zAN (P : Params) : Obj := ob (.type "dict") (.dict #[(ky P q10 317 (.str ⟨q0⟩ 194)),(ky P q8 321 (.int (19) 320)),(ky P q7 322 (.ref 114)),(ky P q14 323 .none)] 2)
noncomputable def zAO (P : Params) : Obj := tx q20 116 115 107 310 318
noncomputable def zAP (P : Params) : Obj := ob (.type "super") (.fields #[(.ref 116),(.ref 116),(.ref 116)])
noncomputable def zAQ (P : Params) : Obj := ob (.type "builtin_function_or_method") (.fields #[(.builtin "object.__init_subclass__"),(.ref 116)])
noncomputable def zAR (P : Params) : Obj := ob (.type "dict") (.dict #[(ky P q10 333 (.str ⟨q0⟩ 194)),(ky P q12 335 (.str ⟨q39⟩ 334)),(ky P q8 337 (.int (21) 336)),(ky P q7 338 (.ref 126))] 4)
noncomputable def zAS (P : Params) : Obj := cd q39 q39 328 21 0 0 122 false 123 .none .none .none .none 331
noncomputable def zAT (P : Params) : Obj := fm 124 3 121 q0 194
noncomputable def zAU (P : Params) : Obj := ob (.type "dict") (.dict #[(ky P q10 333 (.str ⟨q0⟩ 194)),(ky P q8 337 (.int (21) 336)),(ky P q7 338 (.ref 126)),(ky P q14 339 .none)] 2)
noncomputable def zAV (P : Params) : Obj := tx q39 128 127 119 326 334
noncomputable def zAW (P : Params) : Obj := ob (.type "super") (.fields #[(.ref 128),(.ref 128),(.ref 128)])
noncomputable def zAX (P : Params) : Obj := ob (.type "builtin_function_or_method") (.fields #[(.builtin "object.__init_subclass__"),(.ref 128)])
noncomputable def zAY (P : Params) : Obj := ob (.type "dict") (.dict #[(ky P q10 349 (.str ⟨q0⟩ 194)),(ky P q12 351 (.str ⟨q35⟩ 350)),(ky P q8 353 (.int (23) 352)),(ky P q7 354 (.ref 138))] 4)
noncomputable def zAZ (P : Params) : Obj := cd q35 q35 344 23 0 0 134 false 135 .none .none .none .none 347
noncomputable def zAa (P : Params) : Obj := fm 136 3 133 q0 194
noncomputable def zAb (P : Params) : Obj := ob (.type "dict") (.dict #[(ky P q10 349 (.str ⟨q0⟩ 194)),(ky P q8 353 (.int (23) 352)),(ky P q7 354 (.ref 138)),(ky P q14 355 .none)] 2)
noncomputable def zAc (P : Params) : Obj := tx q35 140 139 131 342 350
noncomputable def zAd (P : Params) : Obj := ob (.type "super") (.fields #[(.ref 140),(.ref 140),(.ref 140)])
noncomputable def zAe (P : Params) : Obj := ob (.type "builtin_function_or_method") (.fields #[(.builtin "object.__init_subclass__"),(.ref 140)])
noncomputable def zPM (P : Params) : Heap := ⟨⟨[boot_o_0 P,boot_o_1 P,boot_o_2 P,zLx P,boot_o_4 P,boot_o_5 P,boot_o_6 P,boot_o_7 P,boot_o_8 P,boot_o_9 P,boot_o_10 P,boot_o_7 P,zKK P,vN P,vO P,boot_o_7 P,boot_o_8 P,vP P,boot_o_7 P,vQ P,vR P,vS P,vT P,zL P,vU P,boot_o_7 P,boot_o_8 P,vV P,vW P,boot_o_7 P,vX P,zBZ P,vY P,vZ P,vd P,zM P,zL P,vf P,boot_o_7 P,boot_o_8 P,vg P,vj P,boot_o_7 P,vm P,vn P,vp P,vq P,zM P,zL P,vt P,boot_o_7 P,boot_o_8 P,vw P,vx P,boot_o_7 P,vy P,vz P,kA P,kB P,zM P,zL P,jW P,boot_o_7 P,boot_o_8 P,jX P,jY P,boot_o_7 P,jZ P,ja P,jb P,jc P,zM P,zL P,jd P,boot_o_7 P,boot_o_8 P,je P,jf P,boot_o_7 P,jg P,jh P,ji P,jk P,zM P,zL P,jl P,boot_o_7 P,boot_o_8 P,jm P,jn P,boot_o_7 P,jo P,jp P,jq P,jr P,zM P,zL P,js P,boot_o_7 P,boot_o_8 P,kT P,kU P,boot_o_7 P,kW P,kX P,kY P,kZ P,zM P,zL P,zAK P,boot_o_7 P,boot_o_8 P,zAL P,zAM P,boot_o_7 P,zAN P,zAO P,zAP P,zAQ P,zM P,zL P,zAR P,boot_o_7 P,boot_o_8 P,zAS P,zAT P,boot_o_7 P,zAU P,zAV P,zAW P,zAX P,zM P,zL P,zAY P,boot_o_7 P,boot_o_8 P,zAZ P,zAa P,boot_o_7 P,zAb P,zAc P,zAd P,zAe P]⟩,{ registered := [],finalised := [],alive := [],known := 0,ids := [],orphanDicts := [],counting := false,cnt := #[],zero := [],soft := 0,below := false,collecting := false }⟩
noncomputable def zMk (w : World) (os : OsState) : Shared := ⟨zPM w.params,#[],⟨0,0,0,0⟩,358,os⟩
noncomputable def zLy (P : Params) : Obj := ob (.type "dict") (.dict #[(ky P q45 165 (.str ⟨q9⟩ 438)),(ky P q14 166 .none),(ky P q32 167 .none),(ky P q36 168 (.builtin "__main__.__loader__#opaque")),(ky P q46 169 .none),(ky P q16 170 (.ref 6)),(ky P q25 171 (.ref 4)),(ky P q42 173 (.str ⟨q21⟩ 172)),(ky P q38 174 .none),(ky P q28 193 (.ref 21)),(ky P q11 213 (.ref 31)),(ky P q29 229 (.ref 44)),(ky P q18 245 (.ref 56)),(ky P q33 261 (.ref 68)),(ky P q19 277 (.ref 80)),(ky P q17 293 (.ref 92)),(ky P q26 309 (.ref 104)),(ky P q20 325 (.ref 116)),(ky P q39 341 (.ref 128)),(ky P q35 357 (.ref 140)),(ky P #[76,69,84,84,69,82,83] 361 (.str ⟨q30⟩ 360)),(ky P #[77,79,83,84,95,83,73,71,78,83] 363 (.int (12) 362)),(ky P #[77,79,83,84,95,76,73,78,69,83] 365 (.int (20) 364)),(ky P #[77,79,83,84,95,80,73,69,67,69,83] 367 (.int (1000000) 366)),(ky P #[77,79,83,84,95,67,69,78,84,83] 369 (.int (1000000000) 368)),(ky P #[77,79,83,84,95,80,65,67,75] 371 (.int (1000) 370)),(ky P q37 380 (.ref 149)),(ky P q23 386 (.ref 154)),(ky P q15 394 (.ref 161)),(ky P q40 401 (.ref 168)),(ky P q34 408 (.ref 175)),(ky P q24 416 (.ref 182)),(ky P q31 429 (.ref 189)),(ky P q27 437 (.ref 194)),(ky P #[77,79,83,84,95,79,82,68,69,82,83] 441 (.int (40) 440)),(ky P #[80,65,82,84,83] 466 (.ref 195))] 36)
noncomputable def zKL (P : Params) : Obj := ob .none (.fields (t3 [(1,0,20),(5,0,27),(7,0,40),(9,0,52),(11,0,64),(13,0,76),(15,0,88),(17,0,100),(19,0,112),(21,0,124),(23,0,136),(32,0,148),(34,0,153),(38,0,160),(46,0,167),(48,0,174),(50,0,181),(56,0,188),(72,0,193)]))
noncomputable def zCD (P : Params) : Obj := ob (.type "tuple") (.seq #[(.str ⟨#[112,105,101,99,101,115]⟩ 375),(.str ⟨#[99,101,110,116,115]⟩ 376),(.str ⟨#[112,97,99,107]⟩ 377)] 0)
noncomputable def zCE (P : Params) : Obj := fo .none q37 q37 (wx 19) 0 .none .none
noncomputable def zCF (P : Params) : Obj := cd q37 q37 372 32 3 3 143 true 144 .none (.ref 145) (.ref 146) (.ref 147) 378
noncomputable def zCG (P : Params) : Obj := fo (.type "function") q37 q37 (wx 19) 3 (.str ⟨q13⟩ 358) (.ref 148)
noncomputable def zCH (P : Params) : Obj := fo .none q23 q23 (wx 20) 0 .none .none
noncomputable def zCI (P : Params) : Obj := cd q23 q23 381 34 1 3 150 true 151 .none .none .none (.ref 152) 384
noncomputable def zCJ (P : Params) : Obj := fo (.type "function") q23 q23 (wx 20) 3 (.str ⟨q13⟩ 358) (.ref 153)
noncomputable def zCK (P : Params) : Obj := ob (.type "tuple") (.seq #[(.str ⟨#[108,105,110,101,115]⟩ 390),(.str ⟨q59⟩ 391)] 0)
noncomputable def zCL (P : Params) : Obj := fo .none q15 q15 (wx 21) 0 .none .none
noncomputable def zCM (P : Params) : Obj := cd q15 q15 387 38 1 3 155 true 156 .none (.ref 157) (.ref 158) (.ref 159) 392
noncomputable def zCN (P : Params) : Obj := fo (.type "function") q15 q15 (wx 21) 3 (.str ⟨q13⟩ 358) (.ref 160)
noncomputable def zCO (P : Params) : Obj := ob (.type "tuple") (.seq #[(.str ⟨q59⟩ 398)] 0)
noncomputable def zCP (P : Params) : Obj := fo .none q40 q40 (wx 22) 0 .none .none
noncomputable def zCQ (P : Params) : Obj := cd q40 q40 395 46 1 3 162 true 163 .none (.ref 164) (.ref 165) (.ref 166) 399
noncomputable def zCR (P : Params) : Obj := fo (.type "function") q40 q40 (wx 22) 3 (.str ⟨q13⟩ 358) (.ref 167)
noncomputable def zCS (P : Params) : Obj := ob (.type "tuple") (.seq #[(.str ⟨q59⟩ 405)] 0)
noncomputable def zCT (P : Params) : Obj := fo .none q34 q34 (wx 23) 0 .none .none
noncomputable def zCU (P : Params) : Obj := cd q34 q34 402 48 1 3 169 true 170 .none (.ref 171) (.ref 172) (.ref 173) 406
noncomputable def zCV (P : Params) : Obj := fo (.type "function") q34 q34 (wx 23) 3 (.str ⟨q13⟩ 358) (.ref 174)
noncomputable def zCW (P : Params) : Obj := ob (.type "tuple") (.seq #[(.str ⟨q71⟩ 412),(.str ⟨q59⟩ 413)] 0)
noncomputable def zCX (P : Params) : Obj := fo .none q24 q24 (wx 24) 0 .none .none
noncomputable def zCY (P : Params) : Obj := cd q24 q24 409 50 2 3 176 true 177 .none (.ref 178) (.ref 179) (.ref 180) 414
noncomputable def zCZ (P : Params) : Obj := fo (.type "function") q24 q24 (wx 24) 3 (.str ⟨q13⟩ 358) (.ref 181)
noncomputable def zCa (P : Params) : Obj := ob (.type "tuple") (.seq #[(.str ⟨q71⟩ 420),(.str ⟨q59⟩ 421),(.str ⟨#[109,97,110,121]⟩ 422),(.str ⟨#[115,101,110,116]⟩ 423),(.str ⟨#[104,111,109,101]⟩ 424),(.str ⟨#[97,103,97,105,110]⟩ 425),(.str ⟨#[99,114,101,100,105,116,101,100]⟩ 426)] 0)
noncomputable def zCb (P : Params) : Obj := fo .none q31 q31 (wx 25) 0 .none .none
noncomputable def zCc (P : Params) : Obj := cd q31 q31 417 56 3 3 183 true 184 .none (.ref 185) (.ref 186) (.ref 187) 427
noncomputable def zCd (P : Params) : Obj := fo (.type "function") q31 q31 (wx 25) 3 (.str ⟨q13⟩ 358) (.ref 188)
noncomputable def zCe (P : Params) : Obj := fo .none q27 q27 (wx 27) 0 .none .none
noncomputable def zCf (P : Params) : Obj := cd q27 q27 432 72 1 3 190 true 191 .none .none .none (.ref 192) 435
noncomputable def zCg (P : Params) : Obj := fo (.type "function") q27 q27 (wx 27) 3 (.str ⟨#[111,114,100,101,114,102,108,111,119,46,109,97,116,99,104,105,110,103]⟩ 430) (.ref 193)
noncomputable def zCh (P : Params) : Obj := ob (.type "dict") (.dict #[(ky P q50 442 (.int (2) 443)),(ky P #[100,101,108,105,118,101,114] 444 (.int (4) 445)),(ky P #[98,97,99,107] 446 (.int (4) 447)),(ky P #[115,119,97,112] 448 (.int (4) 449)),(ky P #[99,114,101,100,105,116] 450 (.int (4) 451)),(ky P #[112,97,121] 452 (.int (3) 453)),(ky P #[114,101,102,117,110,100] 454 (.int (3) 455)),(ky P #[109,111,118,101] 456 (.int (4) 457))] 8)
noncomputable def zPN (P : Params) : Heap := ⟨⟨[boot_o_0 P,boot_o_1 P,boot_o_2 P,zLy P,boot_o_4 P,boot_o_5 P,boot_o_6 P,boot_o_7 P,boot_o_8 P,boot_o_9 P,boot_o_10 P,boot_o_7 P,zKL P,vN P,vO P,boot_o_7 P,boot_o_8 P,vP P,boot_o_7 P,vQ P,vR P,vS P,vT P,zL P,vU P,boot_o_7 P,boot_o_8 P,vV P,vW P,boot_o_7 P,vX P,zBZ P,vY P,vZ P,vd P,zM P,zL P,vf P,boot_o_7 P,boot_o_8 P,vg P,vj P,boot_o_7 P,vm P,vn P,vp P,vq P,zM P,zL P,vt P,boot_o_7 P,boot_o_8 P,vw P,vx P,boot_o_7 P,vy P,vz P,kA P,kB P,zM P,zL P,jW P,boot_o_7 P,boot_o_8 P,jX P,jY P,boot_o_7 P,jZ P,ja P,jb P,jc P,zM P,zL P,jd P,boot_o_7 P,boot_o_8 P,je P,jf P,boot_o_7 P,jg P,jh P,ji P,jk P,zM P,zL P,jl P,boot_o_7 P,boot_o_8 P,jm P,jn P,boot_o_7 P,jo P,jp P,jq P,jr P,zM P,zL P,js P,boot_o_7 P,boot_o_8 P,kT P,kU P,boot_o_7 P,kW P,kX P,kY P,kZ P,zM P,zL P,zAK P,boot_o_7 P,boot_o_8 P,zAL P,zAM P,boot_o_7 P,zAN P,zAO P,zAP P,zAQ P,zM P,zL P,zAR P,boot_o_7 P,boot_o_8 P,zAS P,zAT P,boot_o_7 P,zAU P,zAV P,zAW P,zAX P,zM P,zL P,zAY P,boot_o_7 P,boot_o_8 P,zAZ P,zAa P,boot_o_7 P,zAb P,zAc P,zAd P,zAe P,boot_o_7 P,boot_o_8 P,zCD P,boot_o_7 P,zCE P,zCF P,zCG P,boot_o_7 P,boot_o_8 P,zCH P,zCI P,zCJ P,boot_o_7 P,boot_o_8 P,zCK P,boot_o_7 P,zCL P,zCM P,zCN P,boot_o_7 P,boot_o_8 P,zCO P,boot_o_7 P,zCP P,zCQ P,zCR P,boot_o_7 P,boot_o_8 P,zCS P,boot_o_7 P,zCT P,zCU P,zCV P,boot_o_7 P,boot_o_8 P,zCW P,boot_o_7 P,zCX P,zCY P,zCZ P,boot_o_7 P,boot_o_8 P,zCa P,boot_o_7 P,zCb P,zCc P,zCd P,boot_o_7 P,boot_o_8 P,zCe P,zCf P,zCg P,zCh P]⟩,{ registered := [],finalised := [],alive := [],known := 0,ids := [],orphanDicts := [],counting := false,cnt := #[],zero := [],soft := 0,below := false,collecting := false }⟩
noncomputable def zMl (w : World) (os : OsState) : Shared := ⟨zPN w.params,#[],⟨0,0,0,0⟩,467,os⟩
noncomputable def zLz (P : Params) : Obj := ob (.type "dict") (.dict #[(ky P q45 165 (.str ⟨q9⟩ 438)),(ky P q14 166 .none),(ky P q32 167 .none),(ky P q36 168 (.builtin "__main__.__loader__#opaque")),(ky P q46 169 .none),(ky P q16 170 (.ref 6)),(ky P q25 171 (.ref 4)),(ky P q42 173 (.str ⟨q21⟩ 172)),(ky P q38 174 .none),(ky P q28 193 (.ref 21)),(ky P q11 213 (.ref 31)),(ky P q29 229 (.ref 44)),(ky P q18 245 (.ref 56)),(ky P q33 261 (.ref 68)),(ky P q19 277 (.ref 80)),(ky P q17 293 (.ref 92)),(ky P q26 309 (.ref 104)),(ky P q20 325 (.ref 116)),(ky P q39 341 (.ref 128)),(ky P q35 357 (.ref 140)),(ky P #[76,69,84,84,69,82,83] 361 (.str ⟨q30⟩ 360)),(ky P #[77,79,83,84,95,83,73,71,78,83] 363 (.int (12) 362)),(ky P #[77,79,83,84,95,76,73,78,69,83] 365 (.int (20) 364)),(ky P #[77,79,83,84,95,80,73,69,67,69,83] 367 (.int (1000000) 366)),(ky P #[77,79,83,84,95,67,69,78,84,83] 369 (.int (1000000000) 368)),(ky P #[77,79,83,84,95,80,65,67,75] 371 (.int (1000) 370)),(ky P q37 380 (.ref 149)),(ky P q23 386 (.ref 154)),(ky P q15 394 (.ref 161)),(ky P q40 401 (.ref 168)),(ky P q34 408 (.ref 175)),(ky P q24 416 (.ref 182)),(ky P q31 429 (.ref 189)),(ky P q27 437 (.ref 194)),(ky P #[77,79,83,84,95,79,82,68,69,82,83] 441 (.int (40) 440)),(ky P #[80,65,82,84,83] 466 (.ref 195)),(ky P #[76,73,78,69,68] 471 (.ref 196)),(ky P q49 631 (.ref 317))] 38)
noncomputable def zKM (P : Params) : Obj := ob .none (.fields (t3 [(1,0,20),(5,0,27),(7,0,40),(9,0,52),(11,0,64),(13,0,76),(15,0,88),(17,0,100),(19,0,112),(21,0,124),(23,0,136),(32,0,148),(34,0,153),(38,0,160),(46,0,167),(48,0,174),(50,0,181),(56,0,188),(72,0,193),(95,0,202)]))
noncomputable def zHe (P : Params) : Obj := ob (.type "tuple") (.seq #[(.str ⟨#[100,101,108,105,118,101,114]⟩ 467),(.str ⟨#[98,97,99,107]⟩ 468),(.str ⟨#[115,119,97,112]⟩ 469),(.str ⟨#[99,114,101,100,105,116]⟩ 470)] 0)
noncomputable def zHf (P : Params) : Obj := ob (.type "dict") (.dict #[(ky P q10 479 (.str ⟨q9⟩ 438)),(ky P q12 481 (.str ⟨q49⟩ 480)),(ky P q8 483 (.int (95) 482)),(ky P q43 490 (.ref 210)),(ky P q72 498 (.ref 217)),(ky P #[100,111] 506 (.ref 224)),(ky P q67 512 (.ref 229)),(ky P q69 520 (.ref 236)),(ky P q73 528 (.ref 243)),(ky P q55 539 (.ref 250)),(ky P q56 550 (.ref 257)),(ky P q74 566 (.ref 264)),(ky P q75 573 (.ref 271)),(ky P q52 580 (.ref 278)),(ky P q76 586 (.ref 283)),(ky P q79 594 (.ref 290)),(ky P q77 600 (.ref 295)),(ky P q78 608 (.ref 302)),(ky P q44 614 (.ref 307)),(ky P q82 621 (.ref 314)),(ky P q7 624 (.ref 315))] 21)
noncomputable def zHg (P : Params) : Obj := ob .none (.fields (t3 [(97,4,209),(101,4,216),(105,4,223),(113,4,228),(121,4,235),(134,4,242),(139,4,249),(154,4,256),(159,4,263),(168,4,270),(171,4,277),(174,4,282),(178,4,289),(182,4,294),(186,4,301),(190,4,306),(194,4,313)]))
noncomputable def zHh (P : Params) : Obj := cd q49 q49 474 95 0 0 200 false 201 .none .none .none .none 477
noncomputable def zHi (P : Params) : Obj := fm 202 3 199 q9 438
noncomputable def zHj (P : Params) : Obj := ob (.type "tuple") (.seq #[(.str ⟨q22⟩ 487)] 0)
noncomputable def zHk (P : Params) : Obj := fo .none q43 q47 (zo 32 0) 0 .none .none
noncomputable def zHl (P : Params) : Obj := cd q43 q47 484 97 1 3 204 true 205 .none (.ref 206) (.ref 207) (.ref 208) 488
noncomputable def zHm (P : Params) : Obj := fo (.type "function") q43 q47 (zo 32 0) 3 (.str ⟨q9⟩ 438) (.ref 209)
noncomputable def zHn (P : Params) : Obj := ob (.type "tuple") (.seq #[(.str ⟨q22⟩ 494),(.str ⟨q50⟩ 495)] 0)
noncomputable def zHo (P : Params) : Obj := fo .none q72 q60 (zo 32 1) 0 .none .none
noncomputable def zHp (P : Params) : Obj := cd q72 q60 491 101 2 3 211 true 212 .none (.ref 213) (.ref 214) (.ref 215) 496
noncomputable def zHq (P : Params) : Obj := fo (.type "function") q72 q60 (zo 32 1) 3 (.str ⟨q9⟩ 438) (.ref 216)
noncomputable def zHr (P : Params) : Obj := ob (.type "tuple") (.seq #[(.str ⟨q22⟩ 502),(.str ⟨q81⟩ 503)] 0)
noncomputable def zHs (P : Params) : Obj := fo .none #[100,111] q80 (zo 32 2) 0 .none .none
noncomputable def zHt (P : Params) : Obj := cd #[100,111] q80 499 105 2 3 218 true 219 .none (.ref 220) (.ref 221) (.ref 222) 504
noncomputable def zHu (P : Params) : Obj := fo (.type "function") #[100,111] q80 (zo 32 2) 3 (.str ⟨q9⟩ 438) (.ref 223)
noncomputable def zHv (P : Params) : Obj := fo .none q67 q57 (zo 32 3) 0 .none .none
noncomputable def zHw (P : Params) : Obj := cd q67 q57 507 113 2 3 225 true 226 .none .none .none (.ref 227) 510
noncomputable def zHx (P : Params) : Obj := fo (.type "function") q67 q57 (zo 32 3) 3 (.str ⟨q9⟩ 438) (.ref 228)
noncomputable def zHy (P : Params) : Obj := ob (.type "tuple") (.seq #[(.str ⟨q22⟩ 516),(.str ⟨q81⟩ 517)] 0)
noncomputable def zHz (P : Params) : Obj := fo .none q69 q58 (zo 32 4) 0 .none .none
noncomputable def zH0 (P : Params) : Obj := cd q69 q58 513 121 2 3 230 true 231 .none (.ref 232) (.ref 233) (.ref 234) 518
noncomputable def zH1 (P : Params) : Obj := fo (.type "function") q69 q58 (zo 32 4) 3 (.str ⟨q9⟩ 438) (.ref 235)
noncomputable def zH2 (P : Params) : Obj := ob (.type "tuple") (.seq #[(.str ⟨q22⟩ 524),(.str ⟨q81⟩ 525)] 0)
noncomputable def zH3 (P : Params) : Obj := fo .none q73 q61 (zo 32 5) 0 .none .none
noncomputable def zH4 (P : Params) : Obj := cd q73 q61 521 134 2 3 237 true 238 .none (.ref 239) (.ref 240) (.ref 241) 526
noncomputable def zH5 (P : Params) : Obj := fo (.type "function") q73 q61 (zo 32 5) 3 (.str ⟨q9⟩ 438) (.ref 242)
noncomputable def zH6 (P : Params) : Obj := ob (.type "tuple") (.seq #[(.str ⟨q22⟩ 532),(.str ⟨q81⟩ 533),(.str ⟨q71⟩ 534),(.str ⟨#[109,97,110,121]⟩ 535),(.str ⟨#[111,108,100]⟩ 536)] 0)
noncomputable def zH7 (P : Params) : Obj := fo .none q55 q53 (zo 32 6) 0 .none .none
noncomputable def zH8 (P : Params) : Obj := cd q55 q53 529 139 2 3 244 true 245 .none (.ref 246) (.ref 247) (.ref 248) 537
noncomputable def zH9 (P : Params) : Obj := fo (.type "function") q55 q53 (zo 32 6) 3 (.str ⟨q9⟩ 438) (.ref 249)
noncomputable def zIA (P : Params) : Obj := ob (.type "tuple") (.seq #[(.str ⟨q22⟩ 543),(.str ⟨q50⟩ 544),(.str ⟨q71⟩ 545),(.str ⟨#[99,101,110,116,115]⟩ 546),(.str ⟨#[101,110,116,114,121]⟩ 547)] 0)
noncomputable def zIB (P : Params) : Obj := fo .none q56 q54 (zo 32 7) 0 .none .none
noncomputable def zIC (P : Params) : Obj := cd q56 q54 540 154 4 3 251 true 252 .none (.ref 253) (.ref 254) (.ref 255) 548
noncomputable def zID (P : Params) : Obj := fo (.type "function") q56 q54 (zo 32 7) 3 (.str ⟨q9⟩ 438) (.ref 256)
noncomputable def zIE (P : Params) : Obj := ob (.type "tuple") (.seq #[(.str ⟨q22⟩ 554),(.str ⟨q50⟩ 555),(.str ⟨#[112,108,97,99,101]⟩ 556),(.str ⟨q71⟩ 557),(.str ⟨#[109,97,110,121]⟩ 558),(.str ⟨#[101,110,116,114,121]⟩ 559),(.str ⟨q59⟩ 560),(.str ⟨#[111,116,104,101,114]⟩ 561),(.str ⟨#[99,101,110,116,115]⟩ 562),(.str ⟨#[108,105,110,101,115]⟩ 563)] 0)
noncomputable def zIF (P : Params) : Obj := fo .none q74 q62 (zo 32 8) 0 .none .none
noncomputable def zIG (P : Params) : Obj := cd q74 q62 551 159 5 3 258 true 259 .none (.ref 260) (.ref 261) (.ref 262) 564
noncomputable def zIH (P : Params) : Obj := fo (.type "function") q74 q62 (zo 32 8) 3 (.str ⟨q9⟩ 438) (.ref 263)
noncomputable def zII (P : Params) : Obj := ob (.type "tuple") (.seq #[(.str ⟨q22⟩ 570)] 0)
noncomputable def zIJ (P : Params) : Obj := fo .none q75 q63 (zo 32 9) 0 .none .none
noncomputable def zIK (P : Params) : Obj := cd q75 q63 567 168 1 3 265 true 266 .none (.ref 267) (.ref 268) (.ref 269) 571
noncomputable def zIL (P : Params) : Obj := fo (.type "function") q75 q63 (zo 32 9) 3 (.str ⟨q9⟩ 438) (.ref 270)
noncomputable def zIM (P : Params) : Obj := ob (.type "tuple") (.seq #[(.str ⟨q22⟩ 577)] 0)
noncomputable def zIN (P : Params) : Obj := fo .none q52 q51 (zo 32 10) 0 .none .none
noncomputable def zIO (P : Params) : Obj := cd q52 q51 574 171 1 3 272 true 273 .none (.ref 274) (.ref 275) (.ref 276) 578
noncomputable def zIP (P : Params) : Obj := fo (.type "function") q52 q51 (zo 32 10) 3 (.str ⟨q9⟩ 438) (.ref 277)
noncomputable def zIQ (P : Params) : Obj := fo .none q76 q64 (zo 32 11) 0 .none .none
noncomputable def zIR (P : Params) : Obj := cd q76 q64 581 174 2 3 279 true 280 .none .none .none (.ref 281) 584
noncomputable def zIS (P : Params) : Obj := fo (.type "function") q76 q64 (zo 32 11) 3 (.str ⟨q9⟩ 438) (.ref 282)
noncomputable def zIT (P : Params) : Obj := ob (.type "tuple") (.seq #[(.str ⟨q22⟩ 590),(.str ⟨q50⟩ 591)] 0)
noncomputable def zIU (P : Params) : Obj := fo .none q79 q68 (zo 32 12) 0 .none .none
noncomputable def zIV (P : Params) : Obj := cd q79 q68 587 178 2 3 284 true 285 .none (.ref 286) (.ref 287) (.ref 288) 592
noncomputable def zIW (P : Params) : Obj := fo (.type "function") q79 q68 (zo 32 12) 3 (.str ⟨q9⟩ 438) (.ref 289)
noncomputable def zIX (P : Params) : Obj := fo .none q77 q65 (zo 32 13) 0 .none .none
noncomputable def zIY (P : Params) : Obj := cd q77 q65 595 182 2 3 291 true 292 .none .none .none (.ref 293) 598
noncomputable def zIZ (P : Params) : Obj := fo (.type "function") q77 q65 (zo 32 13) 3 (.str ⟨q9⟩ 438) (.ref 294)
noncomputable def zIa (P : Params) : Obj := ob (.type "tuple") (.seq #[(.str ⟨q22⟩ 604),(.str ⟨q50⟩ 605)] 0)
noncomputable def zIb (P : Params) : Obj := fo .none q78 q66 (zo 32 14) 0 .none .none
noncomputable def zIc (P : Params) : Obj := cd q78 q66 601 186 2 3 296 true 297 .none (.ref 298) (.ref 299) (.ref 300) 606
noncomputable def zId (P : Params) : Obj := fo (.type "function") q78 q66 (zo 32 14) 3 (.str ⟨q9⟩ 438) (.ref 301)
noncomputable def zIe (P : Params) : Obj := fo .none q44 q48 (zo 32 15) 0 .none .none
noncomputable def zIf (P : Params) : Obj := cd q44 q48 609 190 2 3 303 true 304 .none .none .none (.ref 305) 612
noncomputable def zIg (P : Params) : Obj := fo (.type "function") q44 q48 (zo 32 15) 3 (.str ⟨q9⟩ 438) (.ref 306)
noncomputable def zIh (P : Params) : Obj := ob (.type "tuple") (.seq #[(.str ⟨q22⟩ 618)] 0)
noncomputable def zIi (P : Params) : Obj := fo .none q82 q70 (zo 32 16) 0 .none .none
noncomputable def zIj (P : Params) : Obj := cd q82 q70 615 194 1 3 308 true 309 .none (.ref 310) (.ref 311) (.ref 312) 619
noncomputable def zIk (P : Params) : Obj := fo (.type "function") q82 q70 (zo 32 16) 3 (.str ⟨q9⟩ 438) (.ref 313)
noncomputable def zIl (P : Params) : Obj := ob (.type "tuple") (.seq #[(.str ⟨#[101,110,116,114,105,101,115]⟩ 622),(.str ⟨#[104,105,115,116,111,114,121]⟩ 623)] 0)
noncomputable def zIm (P : Params) : Obj := ob (.type "dict") (.dict #[(ky P q10 479 (.str ⟨q9⟩ 438)),(ky P q8 483 (.int (95) 482)),(ky P q43 490 (.ref 210)),(ky P q72 498 (.ref 217)),(ky P #[100,111] 506 (.ref 224)),(ky P q67 512 (.ref 229)),(ky P q69 520 (.ref 236)),(ky P q73 528 (.ref 243)),(ky P q55 539 (.ref 250)),(ky P q56 550 (.ref 257)),(ky P q74 566 (.ref 264)),(ky P q75 573 (.ref 271)),(ky P q52 580 (.ref 278)),(ky P q76 586 (.ref 283)),(ky P q79 594 (.ref 290)),(ky P q77 600 (.ref 295)),(ky P q78 608 (.ref 302)),(ky P q44 614 (.ref 307)),(ky P q82 621 (.ref 314)),(ky P q7 624 (.ref 315)),(ky P #[95,95,100,105,99,116,95,95] 626 (.ref 318)),(ky P q41 628 (.ref 319)),(ky P q14 629 .none)] 4)
noncomputable def zIn (P : Params) : Obj := { cls := (.type "type"),dict := none,data := (.cls { name := ⟨q49⟩,bases := [(.type "object")],mro := [(.ref 317),(.type "object")],ns := 316,qualname := ⟨q49⟩,hasDict := true,slotNames := [],subclasses := [],abstract := false,collection := none,hasDel := false }),slots := #[none,none,(some (.str ⟨q49⟩ 472)),(some (.str ⟨q49⟩ 480)),(some (.builtin "object.__new__")),(some (.bool true))] }
noncomputable def zIo (P : Params) : Obj := ob (.type "getset_descriptor") (.fields #[(.str ⟨#[95,95,100,105,99,116,95,95]⟩ 625),(.ref 317),(.builtin "function.__dict__"),(.builtin "function.__dict__#set")])
noncomputable def zIp (P : Params) : Obj := ob (.type "getset_descriptor") (.fields #[(.str ⟨q41⟩ 627),(.ref 317),(.builtin "ExceptionGroup.__weakref__"),.none])
noncomputable def zIq (P : Params) : Obj := ob (.type "super") (.fields #[(.ref 317),(.ref 317),(.ref 317)])
noncomputable def zIr (P : Params) : Obj := ob (.type "builtin_function_or_method") (.fields #[(.builtin "object.__init_subclass__"),(.ref 317)])
noncomputable def zPO (P : Params) : Heap := ⟨⟨[boot_o_0 P,boot_o_1 P,boot_o_2 P,zLz P,boot_o_4 P,boot_o_5 P,boot_o_6 P,boot_o_7 P,boot_o_8 P,boot_o_9 P,boot_o_10 P,boot_o_7 P,zKM P,vN P,vO P,boot_o_7 P,boot_o_8 P,vP P,boot_o_7 P,vQ P,vR P,vS P,vT P,zL P,vU P,boot_o_7 P,boot_o_8 P,vV P,vW P,boot_o_7 P,vX P,zBZ P,vY P,vZ P,vd P,zM P,zL P,vf P,boot_o_7 P,boot_o_8 P,vg P,vj P,boot_o_7 P,vm P,vn P,vp P,vq P,zM P,zL P,vt P,boot_o_7 P,boot_o_8 P,vw P,vx P,boot_o_7 P,vy P,vz P,kA P,kB P,zM P,zL P,jW P,boot_o_7 P,boot_o_8 P,jX P,jY P,boot_o_7 P,jZ P,ja P,jb P,jc P,zM P,zL P,jd P,boot_o_7 P,boot_o_8 P,je P,jf P,boot_o_7 P,jg P,jh P,ji P,jk P,zM P,zL P,jl P,boot_o_7 P,boot_o_8 P,jm P,jn P,boot_o_7 P,jo P,jp P,jq P,jr P,zM P,zL P,js P,boot_o_7 P,boot_o_8 P,kT P,kU P,boot_o_7 P,kW P,kX P,kY P,kZ P,zM P,zL P,zAK P,boot_o_7 P,boot_o_8 P,zAL P,zAM P,boot_o_7 P,zAN P,zAO P,zAP P,zAQ P,zM P,zL P,zAR P,boot_o_7 P,boot_o_8 P,zAS P,zAT P,boot_o_7 P,zAU P,zAV P,zAW P,zAX P,zM P,zL P,zAY P,boot_o_7 P,boot_o_8 P,zAZ P,zAa P,boot_o_7 P,zAb P,zAc P,zAd P,zAe P,boot_o_7 P,boot_o_8 P,zCD P,boot_o_7 P,zCE P,zCF P,zCG P,boot_o_7 P,boot_o_8 P,zCH P,zCI P,zCJ P,boot_o_7 P,boot_o_8 P,zCK P,boot_o_7 P,zCL P,zCM P,zCN P,boot_o_7 P,boot_o_8 P,zCO P,boot_o_7 P,zCP P,zCQ P,zCR P,boot_o_7 P,boot_o_8 P,zCS P,boot_o_7 P,zCT P,zCU P,zCV P,boot_o_7 P,boot_o_8 P,zCW P,boot_o_7 P,zCX P,zCY P,zCZ P,boot_o_7 P,boot_o_8 P,zCa P,boot_o_7 P,zCb P,zCc P,zCd P,boot_o_7 P,boot_o_8 P,zCe P,zCf P,zCg P,zCh P,zHe P,boot_o_7 P,zL P,zHf P,boot_o_7 P,zHg P,zHh P,zHi P,boot_o_7 P,boot_o_8 P,zHj P,boot_o_7 P,zHk P,zHl P,zHm P,boot_o_7 P,boot_o_8 P,zHn P,boot_o_7 P,zHo P,zHp P,zHq P,boot_o_7 P,boot_o_8 P,zHr P,boot_o_7 P,zHs P,zHt P,zHu P,boot_o_7 P,boot_o_8 P,zHv P,zHw P,zHx P,boot_o_7 P,boot_o_8 P,zHy P,boot_o_7 P,zHz P,zH0 P,zH1 P,boot_o_7 P,boot_o_8 P,zH2 P,boot_o_7 P,zH3 P,zH4 P,zH5 P,boot_o_7 P,boot_o_8 P,zH6 P,boot_o_7 P,zH7 P,zH8 P,zH9 P,boot_o_7 P,boot_o_8 P,zIA P,boot_o_7 P,zIB P,zIC P,zID P,boot_o_7 P,boot_o_8 P,zIE P,boot_o_7 P,zIF P,zIG P,zIH P,boot_o_7 P,boot_o_8 P,zII P,boot_o_7 P,zIJ P,zIK P,zIL P,boot_o_7 P,boot_o_8 P,zIM P,boot_o_7 P,zIN P,zIO P,zIP P,boot_o_7 P,boot_o_8 P,zIQ P,zIR P,zIS P,boot_o_7 P,boot_o_8 P,zIT P,boot_o_7 P,zIU P,zIV P,zIW P,boot_o_7 P,boot_o_8 P,zIX P,zIY P,zIZ P,boot_o_7 P,boot_o_8 P,zIa P,boot_o_7 P,zIb P,zIc P,zId P,boot_o_7 P,boot_o_8 P,zIe P,zIf P,zIg P,boot_o_7 P,boot_o_8 P,zIh P,boot_o_7 P,zIi P,zIj P,zIk P,zIl P,zIm P,zIn P,zIo P,zIp P,zIq P,zIr P]⟩,{ registered := [],finalised := [],alive := [],known := 0,ids := [],orphanDicts := [],counting := false,cnt := #[],zero := [],soft := 0,below := false,collecting := false }⟩
noncomputable def zGg (w : World) (os : OsState) : Shared := ⟨zPO w.params,#[],⟨0,0,0,0⟩,632,os⟩
noncomputable def zAl : Env := { scope := pw12.main.scope,locals := mainNs,globals := mainNs,cells := [],code := (.ref 13),frame := some 14 }
noncomputable def b12 : List Stmt := behindTheImports pw12
noncomputable def c12 : Code := .body b12 zAl
noncomputable def z12 (w : World) (os : OsState) : Shared := ⟨boot_heap w.params,Array.mk [],boot_drawn,boot_toks,os⟩
noncomputable def zKw (w : World) (os : OsState) := topGo treeTable pw12 w 11 (some (.ref 6)) 12 (z12 w os) (topStub pw12)
noncomputable def zKv (w : World) (os : OsState) := (zKw w os).bind fun x => segRun treeTable pw12 w 11 (some (.ref 6)) 1 1 x.1 (blockOf b12 zAl c12 ⟨0,0,0,0⟩ [topFrame ⟨0,0,0,0⟩])
theorem zPg : ∀ (w : World),(fun os => (zKw w os).map (·.2)) = fun _ => some ⟨denote treeTable c12,c12,⟨0,0,0,0⟩,[topFrame ⟨0,0,0,0⟩]⟩ := by
 intro w; kernel_rfl
theorem zOy : ∀ (w : World),(fun os => (zKv w os).map fun y => (y.1,y.2.2)) = fun _ => some (.next,c12,⟨0,0,0,0⟩) := by
 intro w; kernel_rfl
noncomputable def zOj (w : World) (os : OsState) := (zKv w os).bind fun y => segRun treeTable pw12 w 11 (some (.ref 6)) 1 651 y.2.1 (piecesOf ((b12.take 5).drop 0) zAl c12 ⟨0,0,0,0⟩ [topFrame ⟨0,0,0,0⟩])
noncomputable def zOp (w : World) (os : OsState) : Option (Flow × Shared × Code × Pos) := some (.next,zMi w os,c12,⟨9,0,10,8⟩)
theorem zPD : ∀ w : World,zOj w = zOp w := by
 intro w; kernel_rfl
noncomputable def zOk (w : World) (os : OsState) := segRun treeTable pw12 w 11 (some (.ref 6)) 1 853 (zMi w os) (piecesOf ((b12.take 9).drop 5) zAl c12 ⟨9,0,10,8⟩ [topFrame ⟨0,0,0,0⟩])
noncomputable def zOq (w : World) (os : OsState) : Option (Flow × Shared × Code × Pos) := some (.next,zMj w os,c12,⟨17,0,18,8⟩)
theorem zPE : ∀ w : World,zOk w = zOq w := by
 intro w; kernel_rfl
noncomputable def zOl (w : World) (os : OsState) := segRun treeTable pw12 w 11 (some (.ref 6)) 1 640 (zMj w os) (piecesOf ((b12.take 12).drop 9) zAl c12 ⟨17,0,18,8⟩ [topFrame ⟨0,0,0,0⟩])
noncomputable def zOr (w : World) (os : OsState) : Option (Flow × Shared × Code × Pos) := some (.next,zMk w os,c12,⟨23,0,24,8⟩)
theorem zPF : ∀ w : World,zOl w = zOr w := by
 intro w; kernel_rfl
noncomputable def zI7 (w : World) (os : OsState) := segRun treeTable pw12 w 11 (some (.ref 6)) 1 457 (zMk w os) (piecesOf ((b12.take 31).drop 12) zAl c12 ⟨23,0,24,8⟩ [topFrame ⟨0,0,0,0⟩])
noncomputable def zI8 (w : World) (os : OsState) : Option (Flow × Shared × Code × Pos) := some (.next,zMl w os,c12,⟨93,0,93,5⟩)
theorem zEC : ∀ w : World,zI7 (w.withFollow "special-get-raises" false) = zI8 (w.withFollow "special-get-raises" false) := by
 intro w; kernel_rfl
theorem zFG : ∀ w : World,zI7 (w.withFollow "special-get-raises" true) = zI8 (w.withFollow "special-get-raises" true) := by
 intro w; kernel_rfl
theorem zPG : ∀ w : World,zI7 w = zI8 w := byRow2 "special-get-raises" zEC zFG
noncomputable def zOm (w : World) (os : OsState) := segRun treeTable pw12 w 11 (some (.ref 6)) 1 744 (zMl w os) (piecesOf ((b12.take 33).drop 31) zAl c12 ⟨93,0,93,5⟩ [topFrame ⟨0,0,0,0⟩])
noncomputable def zOs (w : World) (os : OsState) : Option (Flow × Shared × Code × Pos) := some (.next,zGg w os,c12,⟨95,0,195,16⟩)
theorem zPH : ∀ w : World,zOm w = zOs w := by
 intro w; kernel_rfl
noncomputable def v12 : Program := view pw12 [0,2,3,4,5,6,7,8,9,10,11,13,14,15,16,17,18,19,20,21,22,23,24,25,27,29,30,31,32,34,35,36,37,38,39,40,41,42,43,44,45,46,47,48,49,50,51,52,53,54,55,56,57,58,59]
noncomputable def x12 (s : Shared) : Bool := xlAt v12 [] s && recOk [] s
noncomputable def zAq : List (Nat × Nat) := [(442,443),(444,445),(446,447),(448,449),(450,451),(452,453),(454,455),(456,457)]
noncomputable def zAo : List Nat := [467,468,469,470]
noncomputable def y12 (s : Shared) : Bool × Option Value × Option Obj × Option Value × Option Obj × List (Option (Addr × List Value)) := (s.heap.isNs mainGlobals,s.heap.nsMap mainGlobals "PARTS",s.heap.get? 195,s.heap.nsMap mainGlobals "LINED",s.heap.get? 196,[wc s.heap "FlowError",wc s.heap "NoDeed",wc s.heap "NoLines",wc s.heap "NoItem",wc s.heap "NoNumber",wc s.heap "FullBook",wc s.heap "NoOrder",wc s.heap "SameOrder",wc s.heap "NoLine",wc s.heap "TooMuch"])
noncomputable def a12 (w : World) : Bool × Option Value × Option Obj × Option Value × Option Obj × List (Option (Addr × List Value)) := (true,some (.ref 195),some (zGc w.params zAq),some (.ref 196),some (jR zAo),[some (31,[.ref 31,.type "ValueError",.type "Exception",.type "BaseException",.type "object"]),some (44,[.ref 44,.ref 31,.type "ValueError",.type "Exception",.type "BaseException",.type "object"]),some (56,[.ref 56,.ref 31,.type "ValueError",.type "Exception",.type "BaseException",.type "object"]),some (68,[.ref 68,.ref 31,.type "ValueError",.type "Exception",.type "BaseException",.type "object"]),some (80,[.ref 80,.ref 31,.type "ValueError",.type "Exception",.type "BaseException",.type "object"]),some (92,[.ref 92,.ref 31,.type "ValueError",.type "Exception",.type "BaseException",.type "object"]),some (104,[.ref 104,.ref 31,.type "ValueError",.type "Exception",.type "BaseException",.type "object"]),some (116,[.ref 116,.ref 31,.type "ValueError",.type "Exception",.type "BaseException",.type "object"]),some (128,[.ref 128,.ref 31,.type "ValueError",.type "Exception",.type "BaseException",.type "object"]),some (140,[.ref 140,.ref 31,.type "ValueError",.type "Exception",.type "BaseException",.type "object"])])
noncomputable def zOQ : Thread := (restOf (b12.drop 33) zAl c12 ⟨95,0,195,16⟩ [topFrame ⟨0,0,0,0⟩])
noncomputable def zNu (w : World) (os : OsState) := (topRun treeTable pw12 w 11 (some (.ref 6)) 807 (zGg w os) zOQ).map fun s₁ => ((staticsOk (importedModules pw12.main.body) (boot_heap w.params) s₁.heap && namesBound pw12 s₁.heap && gensDone s₁ && laidKept (boot_heap w.params) s₁.heap),
    openSeen v12 [("PARTS" : Str)] (importedModules pw12.main.body) x12 true s₁,y12 s₁)
theorem zLs : ∀ w : World,zNu w = fun _ => some (true,openGood v12 [("PARTS" : Str)],a12 w) := by
 intro w; kernel_rfl
theorem zOK : ∀ w : World,((boot_heap w.params).isNs mainGlobals && (Array.mk [] : Array GenState).size == 0,(boot_heap w.params).objs.size,(boot_heap w.params).nsMap mainGlobals "__annotations__") = (true,11,(some (.ref 6))) := by
 intro w; kernel_rfl
theorem zPi (w : World) (os : OsState) (r : Shared) (k : topRun treeTable pw12 w 11 (some (.ref 6)) 807 (zGg w os) zOQ = some r) : topRun treeTable pw12 w 11 (some (.ref 6)) (12 + (1 + (651 + (853 + (640 + (457 + (744 + 807))))))) (z12 w os) (topStub pw12) = some r :=
 zHE (i := 5) (hc := rfl) (congrFun (zPg w) os) (congrFun (zOy w) os) (congrFun (zPD w) os) (jN (i := 5) (j := 9) (by decide) (congrFun (zPE w) os) (jN (i := 9) (j := 12) (by decide) (congrFun (zPF w) os) (jN (i := 12) (j := 31) (by decide) (congrFun (zPG w) os) (jN (i := 31) (j := 33) (by decide) (congrFun (zPH w) os) k))))
theorem left12 : LeftO pw12 v12 [("PARTS" : Str)] x12 y12 a12 4900 :=
 zEP (n := 3358) (M := 807) (sc := zGg) (th := zOQ) (by kernel_rfl) (by decide) (fun s => by kernel_rfl) zOK (fun w os r k => zPi w os r k) (by decide) zLs
theorem well12 : PySem.Challenge.rw_uf040020_12.wellSaid = true := by kernel_rfl
end Mine
end

section
open PySem PySem.W PyProof.Rows
set_option maxRecDepth 100000
namespace Mine
noncomputable def zC2 : List (Str × V) := [("LETTERS", .str xR), ("MOST_SIGNS", .int 12), ("MOST_LINES", .int 20), ("MOST_PIECES", .int 1000000), ("MOST_CENTS", .int 1000000000), ("MOST_PACK", .int 1000), ("MOST_ORDERS", .int 40)]
noncomputable def ex12 : List Ex := [⟨"FlowError", .FlowError, 31, bmV⟩, ⟨"NoDeed", .NoDeed, 44, .ref 31 :: bmV⟩, ⟨"NoLines", .NoLines, 56, .ref 31 :: bmV⟩, ⟨"NoItem", .NoItem, 68, .ref 31 :: bmV⟩, ⟨"NoNumber", .NoNumber, 80, .ref 31 :: bmV⟩, ⟨"FullBook", .FullBook, 92, .ref 31 :: bmV⟩, ⟨"NoOrder", .NoOrder, 104, .ref 31 :: bmV⟩, ⟨"SameOrder", .SameOrder, 116, .ref 31 :: bmV⟩, ⟨"NoLine", .NoLine, 128, .ref 31 :: bmV⟩, ⟨"TooMuch", .TooMuch, 140, .ref 31 :: bmV⟩]
noncomputable def zNU (c : Cls) : Value := match ex12.find? fun q => q.c == c with
 | some q => .ref q.a
 | none => .none
noncomputable def kn12 : List Cls := ex12.map (·.c)
noncomputable def C12 : Ctx := { fns := [(("_wall" : Str), 33), (("worth" : Str), 20), (("is_item" : Str), 21), (("check_lines" : Str), 22), (("begun" : Str), 23), (("charge" : Str), 24), (("most_of" : Str), 25), (("behind" : Str), 26), (("matched" : Str), 27), (("_law_cell_at" : Str), 100), (("_law_whole" : Str), 101), (("_law_line_worth" : Str), 102), (("_law_owed_by" : Str), 103), (("_law_most" : Str), 104), (("_law_place_by" : Str), 105), (("_law_number_by" : Str), 106), (("_law_item_by" : Str), 107), (("_law_lines_by" : Str), 108), (("_law_deed_by" : Str), 109), (("_law_refusal" : Str), 110), (("_law_turned" : Str), 111), (("_law_step" : Str), 112), (("_law_handed" : Str), 113), (("_law_tried" : Str), 114), (("_law_ahead_whole" : Str), 115), (("_law_is_triple" : Str), 116), (("_law_matched_well" : Str), 117), (("_law_rows_alike" : Str), 118), (("_law_begun" : Str), 119), (("_law_lines_told" : Str), 120), (("_law_settled_well" : Str), 121), (("_law_kept_well" : Str), 122), (("_law_asked" : Str), 123), (("_law_none_there" : Str), 124), (("law" : Str), 125)], meths := [("__init__", 0), ("need", 1), ("do", 2), ("begin", 3), ("check", 4), ("most", 5), ("change", 6), ("pay_in", 7), ("turn", 8), ("undo", 9), ("orders", 10), ("told", 11), ("paid", 12), ("owed", 13), ("rows", 14), ("settled", 15), ("net", 16)], consts := zC2 ++ [(("PARTS" : Str), .parts), (("LINED" : Str), zJ6)], excs := (ex12.map fun q => (q.name, q.c)), attrs := attrNames, book := true, trks := zOU }
noncomputable def zNt : List Str := looseW v12 [("PARTS" : Str)]
theorem zPP : 0 < (plainsOf v12 zNt).length := by decide +kernel
theorem zG6 : ∀ q ∈ zC2, zAv v12 q.1 q.2 := fun q hq => by
 simp only [zC2, List.mem_cons, List.not_mem_nil, or_false] at hq
 rcases hq with rfl | rfl | rfl | rfl | rfl | rfl | rfl
 ·exact .str _ (by kernel_rfl) (by decide) (by decide +kernel)
 all_goals exact .int _ (by kernel_rfl)
theorem zOL : (ex12.map fun q => specOf v12 q.name) = ex12.map fun _ => some ("ValueError.__new__", bmV) := by kernel_rfl
theorem zLq : (ex12.all fun q => kn12.contains q.c && (kn12.all fun d => (Value.ref q.a :: q.bm).contains (zNU d) == q.c.sub d) && zNU q.c == .ref q.a) = true := by decide +kernel
set_option maxHeartbeats 8000000 in
theorem law12_text : zFs v12 zNt C12 zKu zKt zC2 ex12 zNU kn12 ((plainsOf v12 zNt)[0]'zPP) where
 k1 := by kernel_rfl
 k2 := by decide +kernel
 k3 := by decide +kernel
 k4 := by decide +kernel
 hc := rfl
 hb := zG6
 hx := rfl
 hs := fun q hq => List.map_inj_left.mp zOL q hq
 hcl := fun q hq => by
  simp only [ex12, List.mem_cons, List.not_mem_nil, or_false] at hq
  rcases hq with rfl | rfl | rfl | rfl | rfl | rfl | rfl | rfl | rfl | rfl <;> rfl
 hbm := fun q hq => by
  simp only [ex12, List.mem_cons, List.not_mem_nil, or_false] at hq
  rcases hq with rfl | rfl | rfl | rfl | rfl | rfl | rfl | rfl | rfl | rfl
  ·exact .inl rfl
  all_goals exact .inr ⟨_, .head _, rfl⟩
 hkn := fun q hq => by
  have := List.all_eq_true.mp zLq q hq
  simp only [Bool.and_eq_true] at this
  exact ⟨List.contains_iff_mem.mp this.1.1, fun d hd => eq_of_beq (List.all_eq_true.mp this.1.2 d hd)⟩
 m1 := List.getElem_mem _
 m2 := by kernel_rfl
 m3 := by decide +kernel
 m4 := by decide +kernel
 m5 := by kernel_rfl
 m6 := by kernel_rfl
 m7 := ⟨by decide +kernel, by decide +kernel⟩
 at0 := rfl
 cln := ⟨by kernel_rfl, by kernel_rfl, by kernel_rfl⟩
noncomputable def zQI : List (Str × Addr × List Value) := ex12.map fun q => (q.name, q.a, .ref q.a :: q.bm)
noncomputable def says12 (w : World) (h : Heap) : Prop := Says w.params 195 196 zAq zAo zQI h
theorem of12 (w : World) (s : Shared) (h : y12 s = a12 w) : says12 w s.heap := zL9 h
theorem keeps12 (w : World) (h h' : Heap) (x : says12 w h) (k : ∀ b o, h.get? b = some o -> h'.get? b = some o) : says12 w h' := Says.keeps x k
end Mine
set_option maxHeartbeats 8000000 in
theorem PySem.Challenge.cw_uf040020_12_holds : PySem.Challenge.rw_uf040020_12.Holds := by
 w_on
 refine holds_law Mine.well12 fun said => ?_
 refine holds_open (q := Mine.v12) (loose := [("PARTS" : Str)]) (Xt := Mine.x12) (XP := XL Mine.v12 []) (Yf := Mine.y12) (Ya := Mine.a12) (YP := Mine.says12) (N := 4900) Mine.left12 Mine.of12 Mine.keeps12 (fun s e => xl_of s (Bool.and_eq_true_iff.mp e).1) XL.keeps (by rfl) (by rfl) (by rfl) (fun s e => recFacts_of (Bool.and_eq_true_iff.mp e).2) (by rfl) (by first | assumption | decide +kernel) (by decide +kernel) ⟨rfl, rfl, rfl, rfl, rfl, by decide +kernel⟩ ?hw ?hc
 case hw => w_witness2
 intro w s0 s₁ mg mb G Y fa o pm cd doc dV kV ho hd hcd hD hmg hg args vals as hpre hlay hrd hwl hlo
 have hmg' : mg ("law" : Str) = some (.ref fa) := hmg
 clear hd hcd hD hmg
 refine Ground.open G ?_
 intro T B D TE TW
 wrow_args hpre hlay hrd hwl hlo
 refine enter_call ?_
 rename_i ns _ _ _ _ _ _ _ a _ _ _ _ W _ _ _ hlen _
 refine codeAny_mono (Mine.book_walk (d := 8) (k := 125) Mine.law12_text T TE Y (by rfl) (by rfl) (by rfl) (by rfl) hmg' W (by omega) (by decide) (Mine.law12 (d := 0) ns (by omega))) fun r s' h => ?_
 obtain ⟨rfl, hk, hos, hgs⟩ := h
 exact Mine.law_good PySem.Challenge.rw_uf040020_12 hk hos hg hgs
end

