import PyProof.Rows.All
import PyProof.ExcArgsOwn
import PyProof.IsInstance
import PyProof.P3Statements
import PyProof.StrBlockL
import PyProof.StrBlock2
import PyProof.Rows.StrNews2
import KE.KIntText
import PyProof.Cells
import PyProof.CompFree
import PyProof.RulesTry
import PyProof.RulesAs
import PyProof.StationsW
import PyProof.DictList
import PyProof.TupleOps
import PyProof.ListOps
import PyProof.DictKinds
import PyProof.ExcClass2
import PyProof.ObjNew
import PyProof.InstLoad
import PyProof.InstStoreFacts
import PyProof.EqLayable
import PyProof.Rows.StrJoin2
import PyProof.Rows.StrJoinMade
import PyProof.CallStr
import PyProof.Rows.StrSplitAre
import PyProof.DictRoads
import PyProof.RaisesMany
import PyProof.Rows.PlainStore
import PyProof.StrLoop
import PyProof.StrWalks
import PyProof.Rows.TupAssign
import PyProof.ExcBaseAll.ValueError
import PyProof.NsDelKeeps
import PyProof.CallRoads
import PyProof.AssignAttr
import PyProof.Rows.Own
import PyProof.DictDisplay
import Wide.All
import OpenK.KLine
import Open.Line
import Open.Seg
import Open.Boot
import Wide.FinOn
import Lean
import PySem.Challenge.RW_uf040020_05
set_option Elab.async false
set_option genSizeOf false
set_option genInjectivity false

/-! # OpsX -/
section
set_option maxRecDepth 100000
set_option autoImplicit false
namespace Mine
open PySem
noncomputable def bmX : List Value := [.type "ValueError", .type "Exception", .type "BaseException", .type "object"]
noncomputable def clsNames : List Str := ["__getattribute__", "__getattr__", "__class__"]
inductive TailC (h : Heap) : List Value → Prop
  | base : TailC h bmX
  | own {A : Addr} {c0 : Value} {dd : Option Addr} {cd : ClassData} {sl : Array (Option Value)} {mA : Str → Option Value} {tl : List Value} :
      h.get? A = some { cls := c0, dict := dd, data := .cls cd, slots := sl } → h.Ns cd.ns mA → (∀ n ∈ clsNames, mA n = none) → TailC h tl → TailC h (.ref A :: tl)
theorem TailC.keeps {h h' : Heap} {tl : List Value} (T : TailC h tl) (hk : ∀ b o, h.get? b = some o → h'.get? b = some o) : TailC h' tl := by
  induction T with
  | base => exact .base
  | own hA hN hq _ ih => exact .own (hk _ _ hA) (hN.keeps hk) hq ih
theorem TailC.has {h : Heap} {tl : List Value} (T : TailC h tl) {v : Value} (hv : bmX.contains v = true) : tl.contains v = true := by
  induction T with
  | base => exact hv
  | own _ _ _ _ ih => rw [List.contains_cons, ih, Bool.or_true]
theorem lk_ve_ga : typeLookup (.type "ValueError") "__getattribute__" = pure (some (.builtin "BaseException.__getattribute__")) := by rw [typeLookup_type, builtinLookup_eq_fast]; kernel_rfl
theorem zGt : typeLookup (.type "ValueError") "__class__" = pure (some (.builtin "object.__class__")) := by rw [typeLookup_type, builtinLookup_eq_fast]; kernel_rfl
theorem zFK : typeLookup (.type "ValueError") "__getattr__" = pure none := by rw [typeLookup_type, builtinLookup_eq_fast]; kernel_rfl
theorem mro_ve : mroOf (.type "ValueError") = pure bmX := by kernel_rfl
theorem ga_bind (self : Value) : bindSpecial (.builtin "BaseException.__getattribute__") self = pure (.builtin "BaseException.__getattribute__", [self]) := by
  have h1 : builtinKind "BaseException.__getattribute__" = some .slot := by decide +kernel
  have hop : withoutEnding? "BaseException.__getattribute__" "#opaque" = none := by decide +kernel
  have hdat : withoutEnding? "BaseException.__getattribute__" "#data" = none := by decide +kernel
  simp only [bindSpecial, typeOf, builtinType, hop, hdat, h1]; rfl
section
variable {prog : Program} {w : World} {A : Around} {E : Value → Shared → Prop} {h : Heap} {g : Array GenState} {d : Drawn} {t : Nat} {os : OsState} {a : Addr} {o : Obj}
  {nm q : Str} {C N : Addr} {bs bm : List Value} {hdct : Bool} {sn : List Str} {sub : List Value} {ab : Bool} {col : Option Bool} {dd : Option Addr} {k0 k1 k2 k3 k5 : Option Value} {newId : String}
theorem zGR {M : Model} {tl : List Value} {n : Str} {y : Option Value} {Q : Option Value → Shared → Prop} (hn : n ∈ clsNames) (T : TailC h tl) (hrest : lookupAlong bmX n = pure y) (hq : Q y ⟨h, g, d, t, os⟩) :
    wpAny M A (lookupAlong tl n) Q E ⟨h, g, d, t, os⟩ := by
  induction T with
  | base => rw [hrest]; exact wpAny_pure hq
  | own hA hN hni _ ih =>
    rw [lookupAlong_cons]
    refine wpAny_bind (wpAny_classOwn_cls hA hN ?_)
    rw [hni n hn]
    exact ih
theorem zBQ {M : Model} {n : Str} {y : Option Value} {Q : Option Value → Shared → Prop} (hn : n ∈ clsNames) (hC : h.get? C = some (excClassObj nm q C N bs bm hdct sn sub ab col dd k0 k1 k2 k3 k5 newId)) (T : TailC h (.ref C :: bm))
    (hB : typeLookup (.type "ValueError") n = pure y) (hq : Q y ⟨h, g, d, t, os⟩) : wpAny M A (typeLookup (.ref C) n) Q E ⟨h, g, d, t, os⟩ := by
  have hrest : lookupAlong bmX n = pure y := by rw [typeLookup_eq, mro_ve] at hB; exact hB
  rw [typeLookup_eq]
  exact wpAny_bind (wpAny_mroOf_exc hC (zGR hn T hrest hq))
theorem zFP {R : Result → Shared → Prop} (hC : h.get? C = some (excClassObj nm q C N bs bm hdct sn sub ab col dd k0 k1 k2 k3 k5 newId)) (T : TailC h (.ref C :: bm))
    (hx : h.get? a = some o) (hc : o.cls = .ref C) (hq : R (.ok (.ret (.ref C))) ⟨h, g, d, t, os⟩) :
    codeAny (model prog w) A (.call (.builtin "getset_descriptor.__get__") ⟨[.builtin "object.__class__", .ref a, .ref C], []⟩) R ⟨h, g, d, t, os⟩ := by
  have hT5 : (⟨h, g, d, t, os⟩ : Shared).TypeIs (.builtin "object.__class__") "getset_descriptor" := F.typeOf_object_class
  have hcB : (Value.ref C :: bm).contains (.type (".".intercalate ("object.__class__".cutAt '.').dropLast)) = true := by
    rw [F.owner_object_class]; exact T.has rfl
  refine codeAny_call_builtin F.slot_gs_get.plain F.entry_gs_get (F.slot_gs_get.check _ _ _ _ _ _ _ _ hT5 (F.args_gs_get _ _ _) ?_)
  repeat (any_goals (first | assumption | (with_reducible refine wpAny_loadPart_at hx ?_; rw [hc]) | (with_reducible refine wpAny_isSubtype_exc hC ?_; rw [hcB]) | wp_step))
  refine ⟨Code.quiet_builtin _ (by decide +kernel), codeAny_builtin F.entry_object_class ?_⟩
  repeat (any_goals (first | assumption | (with_reducible refine wpAny_loadPart_at hx ?_; rw [hc]) | (with_reducible refine wpAny_isSubtype_exc hC ?_; rw [hcB]) | wp_step))
theorem zGd {M : Model} {nameV : Value} {Q : Unit → Shared → Prop} (hC : h.get? C = some (excClassObj nm q C N bs bm hdct sn sub ab col dd k0 k1 k2 k3 k5 newId)) (T : TailC h (.ref C :: bm))
    (hx : h.get? a = some o) (hc : o.cls = .ref C) (hq : Q () ⟨h, g, d, t, os⟩) : wpAny M A (checkBuiltinCall "BaseException.__getattribute__" ⟨[.ref a, nameV], []⟩) Q E ⟨h, g, d, t, os⟩ := by
  have hk : builtinKind "BaseException.__getattribute__" = some .slot := by decide +kernel
  have hsplit : splitId "BaseException.__getattribute__" = some ("BaseException", "__getattribute__") := by decide +kernel
  have hcB : (Value.ref C :: bm).contains (.type "BaseException") = true := T.has rfl
  have ha := F.args_bexc_ga (.ref a) nameV
  simp only [checkBuiltinCall, hk, hsplit]
  refine wpAny_bind ?_
  · unfold isInstance
    repeat (first | (with_reducible refine wpAny_loadPart_at hx ?_; rw [hc]) | (with_reducible refine wpAny_isSubtype_exc hC ?_; rw [hcB]) | wp_step)
    exact hq
theorem zEg {tk : Tok} {Q : Fin → Shared → Prop} (hC : h.get? C = some (excClassObj nm q C N bs bm hdct sn sub ab col dd k0 k1 k2 k3 k5 newId)) (T : TailC h (.ref C :: bm))
    (hx : h.get? a = some o) (hc : o.cls = .ref C) (hq : Q (.done (.ret (.ref C))) ⟨h, g, d, t, os⟩) :
    wpAny (model prog w) A (Builtin.«object.__getattribute__» ⟨[.ref a, .str "__class__" tk], []⟩) Q E ⟨h, g, d, t, os⟩ := by
  have hT5 : (⟨h, g, d, t, os⟩ : Shared).TypeIs (.builtin "object.__class__") "getset_descriptor" := F.typeOf_object_class
  have f5 := F.typeOf_object_class
  have f6 := F.slot_gs_get.lookup
  have f7 := F.slot_gs_set.lookup
  have hm : ("__class__" : Str) ∈ clsNames := .tail _ (.tail _ (.head _))
  repeat (any_goals (first | assumption | (with_reducible refine wpAny_loadPart_at hx ?_; rw [hc]) | with_reducible refine zBQ hm hC T zGt ?_ | wp_step))
  refine zFP hC T hx hc ?_
  repeat (any_goals (first | assumption | wp_step))
theorem zGc {tk : Tok} {Q : Value → Shared → Prop} (hC : h.get? C = some (excClassObj nm q C N bs bm hdct sn sub ab col dd k0 k1 k2 k3 k5 newId)) (T : TailC h (.ref C :: bm))
    (hx : h.get? a = some o) (hc : o.cls = .ref C) (hq : Q (.ref C) ⟨h, g, d, t, os⟩) :
    wpAny (model prog w) A (getAttrBy (.ref a) (.str "__class__" tk) false) Q E ⟨h, g, d, t, os⟩ := by
  have f3 := ga_bind (.ref a)
  have hx2 : (Value.builtin "BaseException.__getattribute__" == Value.builtin "object.__getattribute__") = false := by decide +kernel
  have hx1 : (onTheHeap (Value.ref C) && Value.builtin "BaseException.__getattribute__" == Value.builtin "object.__getattribute__") = false := by rw [hx2]; rfl
  have hm1 : ("__getattribute__" : Str) ∈ clsNames := .head _
  have hm2 : ("__getattr__" : Str) ∈ clsNames := .tail _ (.head _)
  have hp : plainId "BaseException.__getattribute__" = true := by decide +kernel
  repeat (any_goals (first | assumption | (with_reducible refine wpAny_loadPart_at hx ?_; rw [hc]) | with_reducible refine zBQ hm1 hC T lk_ve_ga ?_ | with_reducible refine zBQ hm2 hC T zFK ?_ | wp_step))
  refine codeAny_call_builtin hp F.entry_bexc_ga (zGd hC T hx hc (zEg hC T hx hc ?_))
  repeat (any_goals (first | assumption | wp_step))
theorem zEm {Q : Option Value → Shared → Prop} (hC : h.get? C = some (excClassObj nm q C N bs bm hdct sn sub ab col dd k0 k1 k2 k3 k5 newId)) (T : TailC h (.ref C :: bm))
    (hx : h.get? a = some o) (hc : o.cls = .ref C) (hq : Q (some (.ref C)) ⟨h, g, d, t + 1, os⟩) : wpAny (model prog w) A (getAttr? (.ref a) "__class__") Q E ⟨h, g, d, t, os⟩ := by
  unfold getAttr? getAttrBy?
  repeat (any_goals (first | assumption | with_reducible apply zGc hC T hx hc | wp_step))
variable {nm' q' : Str} {K N' : Addr} {bs' bm' : List Value} {hdct' : Bool} {sn' : List Str} {sub' : List Value} {ab' : Bool} {col' : Option Bool} {dd' : Option Addr} {k0' k1' k2' k3' k5' : Option Value} {newId' : String}
theorem nested_own {b : Bool} {dep : Int} {tk : Tok} {Q : Fin → Shared → Prop} (hC : h.get? C = some (excClassObj nm q C N bs bm hdct sn sub ab col dd k0 k1 k2 k3 k5 newId)) (T : TailC h (.ref C :: bm)) (hK : h.get? K = some (excClassObj nm' q' K N' bs' bm' hdct' sn' sub' ab' col' dd' k0' k1' k2' k3' k5' newId'))
    (hx : h.get? a = some o) (hc : o.cls = .ref C) (hb : (Value.ref C :: bm).contains (.ref K) = b) (h1 : Q (.done (.ret (.bool b))) ⟨h, g, d, t, os⟩) (h2 : Q (.done (.ret (.bool b))) ⟨h, g, d, t + 1, os⟩) :
    wpAny (model prog w) A (Builtin.«isinstance.nested» ⟨[.ref a, .ref K, .int dep tk], []⟩) Q E ⟨h, g, d, t, os⟩ := by
  cases he : (Value.ref C == Value.ref K) with
  | true =>
    have hbt : b = true := by rw [← hb, List.contains_cons, beq_iff_eq.mp he, beq_self_eq_true]; rfl
    subst hbt
    repeat (any_goals (first | assumption | (with_reducible refine wpAny_loadPart_at hx ?_; rw [hc]) | wp_step))
  | false =>
    have he' : ¬ ((Value.ref C == Value.ref K) = true) := by rw [he]; exact Bool.false_ne_true
    cases b with
    | true => repeat (any_goals (first | assumption | (with_reducible refine wpAny_loadPart_at hx ?_; rw [hc]) | with_reducible refine wpAny_loadPart_at hK ?_ | (with_reducible refine wpAny_isSubtype_exc hC ?_; rw [hb]) | wp_step))
    | false => repeat (any_goals (first | assumption | (with_reducible refine wpAny_loadPart_at hx ?_; rw [hc]) | with_reducible refine wpAny_loadPart_at hK ?_ | (with_reducible refine wpAny_isSubtype_exc hC ?_; rw [hb]) | with_reducible apply zEm hC T hx hc | with_reducible refine wpAny_loadPart_at hC ?_ | wp_step))
theorem nested_ve {dep : Int} {tk : Tok} {Q : Fin → Shared → Prop} (hC : h.get? C = some (excClassObj nm q C N bs bm hdct sn sub ab col dd k0 k1 k2 k3 k5 newId)) (T : TailC h (.ref C :: bm))
    (hx : h.get? a = some o) (hc : o.cls = .ref C) (h1 : Q (.done (.ret (.bool true))) ⟨h, g, d, t, os⟩) :
    wpAny (model prog w) A (Builtin.«isinstance.nested» ⟨[.ref a, .type "ValueError", .int dep tk], []⟩) Q E ⟨h, g, d, t, os⟩ := by
  have hb : (Value.ref C :: bm).contains (.type "ValueError") = true := T.has rfl
  have he : ¬ ((Value.ref C == Value.type "ValueError") = true) := fun h => nomatch (beq_iff_eq.mp h)
  have hty : typeOf (.type "ValueError") = pure (.type "type") := by kernel_rfl
  repeat (any_goals (first | assumption | (with_reducible refine wpAny_loadPart_at hx ?_; rw [hc]) | (with_reducible refine wpAny_isSubtype_exc hC ?_; rw [hb]) | wp_step))
theorem isi_own {b : Bool} {Q : Value → Shared → Prop} (hC : h.get? C = some (excClassObj nm q C N bs bm hdct sn sub ab col dd k0 k1 k2 k3 k5 newId)) (T : TailC h (.ref C :: bm)) (hK : h.get? K = some (excClassObj nm' q' K N' bs' bm' hdct' sn' sub' ab' col' dd' k0' k1' k2' k3' k5' newId'))
    (hx : h.get? a = some o) (hc : o.cls = .ref C) (hb : (Value.ref C :: bm).contains (.ref K) = b) (h1 : Q (.bool b) ⟨h, g, d, t, os⟩) (h2 : Q (.bool b) ⟨h, g, d, t + 1, os⟩) :
    wpAny (model prog w) A (call (.builtin "isinstance") [.ref a, .ref K]) Q E ⟨h, g, d, t, os⟩ :=
  call_isinstance (S := fun _ R s => s = ⟨h, g, d, t, os⟩ ∧ R (.ok (.ret (.bool b))) ⟨h, g, d, t, os⟩ ∧ R (.ok (.ret (.bool b))) ⟨h, g, d, t + 1, os⟩)
    (fun _ _ _ _ s hs => by obtain ⟨rfl, h1, h2⟩ := hs; exact isinstance_outer (nested_own hC T hK hx hc hb h1 h2)) ⟨rfl, h1, h2⟩
theorem isi_ve {Q : Value → Shared → Prop} (hC : h.get? C = some (excClassObj nm q C N bs bm hdct sn sub ab col dd k0 k1 k2 k3 k5 newId)) (T : TailC h (.ref C :: bm))
    (hx : h.get? a = some o) (hc : o.cls = .ref C) (h1 : Q (.bool true) ⟨h, g, d, t, os⟩) :
    wpAny (model prog w) A (call (.builtin "isinstance") [.ref a, .type "ValueError"]) Q E ⟨h, g, d, t, os⟩ :=
  call_isinstance (S := fun _ R s => s = ⟨h, g, d, t, os⟩ ∧ R (.ok (.ret (.bool true))) ⟨h, g, d, t, os⟩)
    (fun _ _ _ _ s hs => by obtain ⟨rfl, h1⟩ := hs; exact isinstance_outer (nested_ve hC T hx hc h1)) ⟨rfl, h1⟩
end
end Mine
end

/-! # Core -/
section
set_option autoImplicit false
namespace Mine
open PySem
inductive Cls where
  | FlowError | NoDeed | NoLines | NoItem | NoNumber | FullBook | NoOrder | SameOrder | NoLine | TooMuch | NothingDone | ValueError
  deriving DecidableEq
noncomputable def Cls.sub (c d : Cls) : Bool := c == d || d == .ValueError || (d == .FlowError && c != .ValueError)
inductive V where
  | undef
  | none
  | bool (b : Bool)
  | int (i : Int)
  | str (s : Str)
  | tup (xs : List V)
  | lst (xs : List V)
  | ref (n : Nat)
  | exc (c : Cls)
  | parts
inductive O where
  | list (xs : List V)
  | dict (es : List (Int × V))
  | inst (attrs : List (Nat × V))
noncomputable abbrev Sto := List O
inductive R (α : Type) where
  | ok (a : α) (σ : Sto)
  | exc (c : Cls) (σ : Sto)
  | stuck
noncomputable def R.bind {α β : Type} : R α → (α → Sto → R β) → R β
  | .ok a σ, f => f a σ
  | .exc c σ, _ => .exc c σ
  | .stuck, _ => .stuck
@[simp] theorem R.bind_ok {α β : Type} (a : α) (σ : Sto) (f : α → Sto → R β) : (R.ok a σ).bind f = f a σ := rfl
@[simp] theorem R.bind_exc {α β : Type} (c : Cls) (σ : Sto) (f : α → Sto → R β) : (R.exc c σ : R α).bind f = .exc c σ := rfl
@[simp] theorem R.bind_stuck {α β : Type} (f : α → Sto → R β) : (R.stuck : R α).bind f = .stuck := rfl
noncomputable def R.lift {α : Type} (σ : Sto) : Option α → R α
  | some a => .ok a σ
  | none => .stuck
@[simp] theorem R.lift_some {α : Type} (σ : Sto) (a : α) : R.lift σ (some a) = .ok a σ := rfl
@[simp] theorem R.lift_none {α : Type} (σ : Sto) : R.lift σ (none : Option α) = .stuck := rfl
inductive Kd where
  | int | bool | str | list | tuple | exc (c : Cls)
  deriving DecidableEq
inductive P1 where
  | not | neg | abs | len | toList | toTup | toInt | toStr | sum | min | max | all | isNone | isNotNone | isInst (k : Kd) | count
inductive P2 where
  | add | sub | mul | fdiv | mod | pow
  | eq | ne | lt | le | gt | ge | isIn | notIn
  | index | min | max | join | split | partition | startswith | count
noncomputable def itemsOf (σ : Sto) : V → Option (List V)
  | .tup xs => some xs
  | .lst xs => some xs
  | .ref n => match σ[n]? with
    | some (.list xs) => some xs
    | _ => none
  | _ => none
noncomputable def listR : Option O → Option (List V)
  | some (.list xs) => some xs
  | _ => none
noncomputable def listOf? (σ : Sto) : V → Option (List V)
  | .lst xs => some xs
  | .ref n => listR σ[n]?
  | _ => none
noncomputable def intOf? : V → Option Int
  | .int i => some i
  | _ => none
noncomputable def strOf? : V → Option Str
  | .str s => some s
  | _ => none
noncomputable def boolOf? : V → Option Bool
  | .bool b => some b
  | _ => none
noncomputable def ints? (xs : List V) : Option (List Int) := xs.mapM intOf?
noncomputable def strs? (xs : List V) : Option (List Str) := xs.mapM strOf?
noncomputable def bools? (xs : List V) : Option (List Bool) := xs.mapM boolOf?
noncomputable def truthy (σ : Sto) : V → Option Bool
  | .none => some false
  | .bool b => some b
  | .int i => some (i != 0)
  | .str s => some (s.length != 0)
  | .tup xs => some (!xs.isEmpty)
  | .lst xs => some (!xs.isEmpty)
  | .ref n => match σ[n]? with
    | some (.list xs) => some (!xs.isEmpty)
    | _ => none
  | _ => none
noncomputable def LIM : Nat := 1048576
noncomputable def toPyO (g : V → Option PyData) : Option O → Option PyData
  | some (.list xs) => (xs.mapM g).map .list
  | _ => none
noncomputable def toPy (σ : Sto) : Nat → V → Option PyData
  | 0, _ => none
  | d + 1, v => match v with
    | .none => some .none
    | .bool b => some (.bool b)
    | .int i => some (.int i)
    | .str s => some (.str s)
    | .tup xs => (xs.mapM (toPy σ d)).map .tuple
    | .lst xs => (xs.mapM (toPy σ d)).map .list
    | .ref n => toPyO (toPy σ d) σ[n]?
    | _ => none
noncomputable def eqDepth : Nat := 8
noncomputable def eqV (σ : Sto) (a b : V) : Option Bool :=
  match listOf? σ a, listOf? σ b with
  | some xs, some ys => if xs.length != ys.length then some false else eqD a b
  | _, _ => eqD a b
where
  eqD (a b : V) : Option Bool := (toPy σ eqDepth a).bind fun x => (toPy σ eqDepth b).map fun y => PyData.eqv x y
noncomputable def mkS (l : List Nat) : Str := ⟨l.toArray⟩
noncomputable def codes (s : Str) : List Nat := s.cps.toList
noncomputable def partsTable : List (Str × Int) := [("order", 2), ("deliver", 4), ("back", 4), ("swap", 4), ("credit", 4), ("pay", 3), ("refund", 3), ("move", 4)]
noncomputable def smallFactor (a : Int) : Bool := a.natAbs < 2 ^ 64
noncomputable def normIndex (n : Nat) (i : Int) : Option Nat :=
  if 0 ≤ i then (if i.toNat < n then some i.toNat else none)
  else if 0 ≤ i + n then some (i + n).toNat else none
noncomputable def sliceStart (n : Nat) : Option Int → Nat
  | none => 0
  | some i => if i < 0 then (i + n).toNat else min i.toNat n
noncomputable def sliceStop (n : Nat) : Option Int → Nat
  | none => n
  | some i => if i < 0 then (i + n).toNat else min i.toNat n
noncomputable def sliceL {α : Type} (xs : List α) (lo hi : Option Int) : List α :=
  (xs.take (sliceStop xs.length hi)).drop (sliceStart xs.length lo)
noncomputable def minL : List Int → Option Int
  | [] => none
  | x :: xs => some (xs.foldl (fun m y => if y < m then y else m) x)
noncomputable def maxL : List Int → Option Int
  | [] => none
  | x :: xs => some (xs.foldl (fun m y => if y > m then y else m) x)
noncomputable def refK : Option O → Kd → Option Bool
  | some (.list _), k => (match k with
    | .list => some true
    | .tuple => some false
    | .str => some false
    | .int => some false
    | _ => none)
  | _, _ => none
noncomputable def instK (σ : Sto) (k : Kd) : V → Option Bool
  | .undef => none
  | .parts => none
  | .none => (match k with | .exc _ => none | _ => some false)
  | .int _ => (match k with | .int => some true | .exc _ => none | _ => some false)
  | .bool _ => (match k with | .int => some true | .bool => some true | .exc _ => none | _ => some false)
  | .str _ => (match k with | .str => some true | .exc _ => none | _ => some false)
  | .tup _ => (match k with | .tuple => some true | .exc _ => none | _ => some false)
  | .lst _ => (match k with | .list => some true | .exc _ => none | _ => some false)
  | .exc c => (match k with | .exc d => some (c.sub d) | _ => none)
  | .ref n => refK σ[n]? k
noncomputable def ev1 (o : P1) (σ : Sto) (a : V) : Option V :=
  match o with
  | .not => (truthy σ a).map fun b => .bool !b
  | .neg => match a with | .int i => some (.int (-i)) | _ => none
  | .abs => match a with | .int i => some (.int i.natAbs) | _ => none
  | .len => match a with
    | .str s => some (.int s.length)
    | .ref n => match σ[n]? with
      | some (.list xs) => some (.int xs.length)
      | _ => none
    | a => (itemsOf σ a).map fun xs => .int xs.length
  | .toList => (itemsOf σ a).map .lst
  | .toTup => (listOf? σ a).map .tup
  | .toInt => match a with
    | .bool b => some (.int (if b then 1 else 0))
    | .int i => some (.int i)
    | .str x => if x.length ≤ 640 then (intText? x).map .int else none
    | _ => none
  | .toStr => match a with | .int i => if 0 ≤ i ∧ i < 10 ^ 100 then some (.str (Str.ofString (toString i))) else none | _ => none
  | .sum => (listOf? σ a).bind fun xs => (ints? xs).map fun l => .int l.sum
  | .min => (listOf? σ a).bind fun xs => (ints? xs).bind fun l => (minL l).map .int
  | .max => (listOf? σ a).bind fun xs => (ints? xs).bind fun l => (maxL l).map .int
  | .all => (listOf? σ a).bind fun xs => (bools? xs).map fun l => .bool (l.all id)
  | .isNone => match a with | .undef => none | .none => some (.bool true) | _ => some (.bool false)
  | .isNotNone => match a with | .undef => none | .none => some (.bool false) | _ => some (.bool true)
  | .isInst k => (instK σ k a).map .bool
  | .count => (listOf? σ a).bind fun xs => (bools? xs).map fun l => .int (l.count true)
noncomputable def inV (σ : Sto) (a b : V) : Option Bool :=
  match a, b with
  | .str x, .str y => match codes x with
    | [c] => some ((codes y).contains c)
    | _ => none
  | .str x, .parts => some (partsTable.any fun p => p.1 == x)
  | .str x, b => (itemsOf σ b).bind fun xs => (strs? xs).map fun l => l.contains x
  | _, _ => none
noncomputable def joinV (σ : Sto) (a b : V) : Option V := (strOf? a).bind fun sep => (listOf? σ b).bind fun xs => (strs? xs).bind fun l =>
  if (l.map (·.length)).sum + l.length * sep.length ≤ 100000 then some (.str (Txt.join sep l)) else none
noncomputable def splitV (a b : V) : Option V := (strOf? a).bind fun s => (strOf? b).bind fun sep =>
  if (sep.length == 0) || decide (10000 < s.length) then none else some (.lst ((Txt.split s sep).map .str))
noncomputable def partV (a b : V) : Option V := (strOf? a).bind fun s => (strOf? b).bind fun sep =>
  if (sep.length == 0) || decide (10000 < s.length) then none else some (.tup [.str (Txt.partition s sep).1, .str (Txt.partition s sep).2.1, .str (Txt.partition s sep).2.2])
noncomputable def strMul (x : Str) : V → Option V
  | .int y => if y == 31 && x.length == 1 && PyData.strOk (Txt.mul x y) && decide ((Txt.mul x y).length ≤ 100) then some (.str (Txt.mul x y)) else none
  | _ => none
noncomputable def startV (a b : V) : Option V := (strOf? a).bind fun x => (strOf? b).map fun y => .bool (Txt.startswith x y)
noncomputable def isBool (k : Bool) : V → Bool
  | .bool b => b == k
  | _ => false
noncomputable def countV (σ : Sto) (a b : V) : Option V :=
  match b with
  | .bool k => (listOf? σ a).bind fun xs => if xs.all fun x => isBool true x || isBool false x then some (.int (xs.countP (isBool k) : Nat)) else none
  | _ => none
noncomputable def ev2 (o : P2) (σ : Sto) (a b : V) : Option V :=
  match o with
  | .add => match a, b with
    | .int x, .int y => some (.int (x + y))
    | .str x, .str y => if x.length + y.length ≤ 10000 then some (.str (x ++ y)) else none
    | .tup xs, .tup ys => if xs.length + ys.length ≤ LIM then some (.tup (xs ++ ys)) else none
    | a, b => (listOf? σ a).bind fun xs => (listOf? σ b).bind fun ys => if xs.length + ys.length ≤ LIM then some (.lst (xs ++ ys)) else none
  | .sub => match a, b with | .int x, .int y => some (.int (x - y)) | _, _ => none
  | .mul => (match a with
    | a => match a, b with
      | .int x, .int y => if smallFactor x || smallFactor y then some (.int (x * y)) else none
      | _, _ => none)
  | .fdiv => match a, b with | .int x, .int y => if y == 0 || 1073741824 ≤ y.natAbs then none else some (.int (x.fdiv y)) | _, _ => none
  | .mod => match a, b with | .int x, .int y => if y == 0 then none else some (.int (x.fmod y)) | _, _ => none
  | .pow => match a, b with | .int x, .int y => if x == 10 && 0 ≤ y && y ≤ 40 then some (.int (x ^ y.toNat)) else none | _, _ => none
  | .eq => (eqV σ a b).map .bool
  | .ne => (eqV σ a b).map fun r => .bool !r
  | .lt => match a, b with | .int x, .int y => some (.bool (x < y)) | _, _ => none
  | .le => match a, b with | .int x, .int y => some (.bool (x ≤ y)) | _, _ => none
  | .gt => match a, b with | .int x, .int y => some (.bool (x > y)) | _, _ => none
  | .ge => match a, b with | .int x, .int y => some (.bool (x ≥ y)) | _, _ => none
  | .isIn => (inV σ a b).map .bool
  | .notIn => (inV σ a b).map fun r => .bool !r
  | .index => match a, b with
    | .str s, .int i => (normIndex s.length i).bind fun k => (codes s)[k]?.map fun c => .str (mkS [c])
    | .parts, .str x => (partsTable.find? fun p => p.1 == x).map fun p => .int p.2
    | .ref n, .int i => match σ[n]? with
      | some (.list xs) => (normIndex xs.length i).bind fun k => xs[k]?
      | some (.dict es) => (es.find? fun p => p.1 == i).map fun p => p.2
      | _ => none
    | a, .int i => (itemsOf σ a).bind fun xs => (normIndex xs.length i).bind fun k => xs[k]?
    | _, _ => none
  | .min => match a, b with | .int x, .int y => some (.int (if y < x then y else x)) | _, _ => none
  | .max => match a, b with | .int x, .int y => some (.int (if y > x then y else x)) | _, _ => none
  | .join => joinV σ a b
  | .split => splitV a b
  | .partition => partV a b
  | .count => countV σ a b
  | .startswith => startV a b
noncomputable def evSlice (σ : Sto) (a : V) (lo hi : Option Int) : Option V :=
  match a with
  | .tup xs => some (.tup (sliceL xs lo hi))
  | .str x => if PyData.strOk (Txt.slice x lo hi) then some (.str (Txt.slice x lo hi)) else none
  | a => (listOf? σ a).map fun xs => .lst (sliceL xs lo hi)
inductive SK where
  | val | range1 | range2
  deriving DecidableEq
inductive CE where
  | lit (v : V)
  | var (i : Nat)
  | p1 (o : P1) (a : CE)
  | p2 (o : P2) (a b : CE)
  | chain (a : CE) (ops : List P2) (es : List CE)
  | slice (a : CE) (lo hi : Option CE)
  | and (a b : CE)
  | or (a b : CE)
  | tup (es : List CE)
  | list (es : List CE)
  | dict0
  | dict1 (k v : CE)
  | comp (elt : CE) (k : SK) (src : List CE) (cond : Option CE)
  | call (f : Nat) (args : List CE)
  | callm (f : Nat) (o : CE) (args : List CE)
  | new
  | attr (e : CE) (a : Nat)
  | append (l x : CE)
  | sm (o : P2) (a b : CE)
  | pop (l : CE)
  | clear (l : CE)
  | trk (e : CE)
inductive TK where
  | ret
  | asg (i : Nat)
  | exp
structure Hd where
  cls : Cls
  as : Option Nat
  tk : TK
  e : CE
inductive CS where
  | asg (i : Nat) (e : CE)
  | setItem (o i v : CE)
  | setAttr (o : CE) (a : Nat) (v : CE)
  | unpack3 (i j k : Nat) (e : CE)
  | ite (c : CE) (a b : List CS)
  | for (i : Nat) (k : SK) (src : List CE) (body : List CS)
  | while (c : CE) (body : List CS)
  | ret (e : CE)
  | exp (e : CE)
  | raise (c : Cls)
  | try (k : TK) (e : CE) (hs : List Hd)
  | pass
  | stuck
inductive Fl where
  | next (ρ : List V)
  | ret (v : V)
structure Fn where
  params : Nat
  slots : Nat
  body : List CS
noncomputable def readVar (ρ : List V) (i : Nat) : Option V :=
  match ρ[i]? with
  | none | some .undef => none
  | some v => some v
noncomputable def rangeL (lo hi : Int) : List V := (List.range (hi - lo).toNat).map fun (k : Nat) => V.int (lo + (k : Int))
inductive Items where
  | now (xs : List V)
  | live (n : Nat)
  | keys (n : Nat) (ks : List Int)
noncomputable def charsOf (x : Str) : List V := (codes x).map fun c => .str (mkS [c])
noncomputable def refItems (n : Nat) : Option O → Option Items
  | some (.list _) => some (.live n)
  | _ => none
noncomputable def valItems (σ : Sto) : V → Option Items
  | .tup xs => some (.now xs)
  | .lst xs => some (.now xs)
  | .ref n => refItems n σ[n]?
  | .str x => if x.cps.all (· < 128) then some (.now (charsOf x)) else none
  | _ => none
noncomputable def int1 (g : Int → Option Items) : V → Option Items
  | .int i => g i
  | _ => none
noncomputable def itemsBy (σ : Sto) (k : SK) : List V → Option Items
  | [] => none
  | [v] => (match k with
    | .range1 => int1 (fun n => if n.natAbs ≤ LIM then some (.now (rangeL 0 n)) else none) v
    | .val => valItems σ v
    | .range2 => none)
  | [v, w] => (match k with
    | .range2 => int1 (fun a => int1 (fun b => if 0 ≤ a && a ≤ LIM && b.natAbs ≤ LIM then some (.now (rangeL a b)) else none) w) v
    | _ => none)
  | _ => none
noncomputable def nextIt (σ : Sto) (it : Items) (i : Nat) : Option (Option V) :=
  match it with
  | .now xs => some xs[i]?
  | .live n => match σ[n]? with
    | some (.list xs) => some xs[i]?
    | _ => none
  | .keys n ks => match σ[n]? with
    | some (.dict es) => if es.map (·.1) = ks then some (ks[i]?.map .int) else none
    | _ => none
noncomputable def itFuel (σ : Sto) (it : Items) : Nat :=
  match it with
  | .now xs => xs.length + 1
  | .live n => match σ[n]? with
    | some (.list xs) => xs.length + 1
    | _ => 0
  | .keys _ ks => ks.length + 1
noncomputable def foldIt {β : Type} (it : Items) (f : V → β → Sto → R β) : Nat → Nat → β → Sto → R β
  | 0, _, _, _ => .stuck
  | fuel + 1, i, b, σ => match nextIt σ it i with
    | none => .stuck
    | some none => .ok b σ
    | some (some x) => (f x b σ).bind fun b σ => foldIt it f fuel (i + 1) b σ
noncomputable def foldItems {β : Type} (it : Items) (f : V → β → Sto → R β) (b : β) (σ : Sto) : R β := foldIt it f (itFuel σ it) 0 b σ
noncomputable def R.calm {α : Type} : R α → R α
  | .ok a σ => .ok a σ
  | _ => .stuck
noncomputable abbrev R.calmE {α : Type} (r : R α) : R α := r.calm
noncomputable def isInst (σ : Sto) : V → Bool
  | .ref n => match σ[n]? with
    | some (.inst _) => true
    | _ => false
  | _ => false
noncomputable def isListV (σ : Sto) (v : V) : Bool := (listOf? σ v).isSome
noncomputable def setDict (es : List (Int × V)) (k : Int) (v : V) : List (Int × V) :=
  if es.any (fun p => p.1 == k) then es.map fun p => if p.1 == k then (k, v) else p else es ++ [(k, v)]
noncomputable def setObj (σ : Sto) (n : Nat) (k : Int) (v : V) : Option O → R Unit
  | some (.list xs) => if 0 ≤ k ∧ k.toNat < xs.length then .ok () (σ.set n (.list (xs.set k.toNat v))) else .stuck
  | some (.dict es) => if es.length < LIM then .ok () (σ.set n (.dict (setDict es k v))) else .stuck
  | _ => .stuck
noncomputable def doSetItem (σ : Sto) (o i v : V) : R Unit :=
  match o, i with
  | .ref n, .int k => setObj σ n k v σ[n]?
  | _, _ => .stuck
noncomputable def setAttrO (σ : Sto) (n a : Nat) (v : V) : Option O → R Unit
  | some (.inst es) => if a < 2 then .ok () (σ.set n (.inst ((a, v) :: es))) else .stuck
  | _ => .stuck
noncomputable def doSetAttr (σ : Sto) (o : V) (a : Nat) (v : V) : R Unit :=
  match o with
  | .ref n => setAttrO σ n a v σ[n]?
  | _ => .stuck
noncomputable def attrO (a : Nat) : Option O → Option V
  | some (.inst es) => es.lookup a
  | _ => none
noncomputable def doAttr (σ : Sto) (o : V) (a : Nat) : Option V :=
  match o with
  | .ref n => attrO a σ[n]?
  | _ => none
noncomputable def doAppend (σ : Sto) (o x : V) : R V :=
  match o with
  | .ref n => match σ[n]? with
    | some (.list xs) => if xs.length < LIM then .ok .none (σ.set n (.list (xs ++ [x]))) else .stuck
    | _ => .stuck
  | _ => .stuck
noncomputable def doPop (σ : Sto) (o : V) : R V :=
  match o with
  | .ref n => match σ[n]? with
    | some (.list xs) => match xs[xs.length - 1]? with
      | some x => .ok x (σ.set n (.list (xs.eraseIdx (xs.length - 1))))
      | none => .stuck
    | _ => .stuck
  | _ => .stuck
noncomputable def doClear (σ : Sto) (o : V) : R V :=
  match o with
  | .ref n => match σ[n]? with
    | some (.list _) => .ok .none (σ.set n (.list []))
    | _ => .stuck
  | _ => .stuck
noncomputable def doTrk (σ : Sto) : V → R V
  | .lst xs => .ok (.ref σ.length) (σ ++ [.list xs])
  | _ => .stuck
noncomputable def dict1O (n : Nat) (σ : Sto) (k : Int) (v : V) : Option O → R V
  | some (.dict []) => .ok (.ref n) (σ.set n (.dict [(k, v)]))
  | _ => .stuck
noncomputable def doDict1 (n : Nat) (σ : Sto) (k v : V) : R V :=
  match k with
  | .int k => dict1O n σ k v σ[n]?
  | _ => .stuck
noncomputable def newEnd (n : Nat) : V → Sto → R V
  | .none, σ => .ok (.ref n) σ
  | _, _ => .stuck
noncomputable abbrev Calls := Nat → List V → Sto → R V
noncomputable def selfOk (o : P2) (σ : Sto) (a : V) : Bool :=
  match o with
  | .count => (listOf? σ a).isSome
  | _ => (strOf? a).isSome
noncomputable def loud1 : P1 → Bool
  | .sum | .min | .max | .all => true
  | _ => false
noncomputable def loud2 : P2 → Bool
  | .min | .max | .join => true
  | _ => false
mutual
noncomputable def evE (F : Calls) (q : Bool) : CE → List V → Sto → R V
  | .lit v, _, σ => .ok v σ
  | .var i, ρ, σ => R.lift σ (readVar ρ i)
  | .p1 o a, ρ, σ => if loud1 o && q then .stuck else (evE F q a ρ σ).bind fun a σ => R.lift σ (ev1 o σ a)
  | .p2 o a b, ρ, σ => if loud2 o && q then .stuck else (evE F q a ρ σ).bind fun a σ => (evE F q b ρ σ).bind fun b σ => R.lift σ (ev2 o σ a b)
  | .chain a ops es, ρ, σ => (evE F q a ρ σ).bind fun a σ => evChain F q ops es a ρ σ
  | .slice a lo hi, ρ, σ => (evE F q a ρ σ).bind fun a σ => (evO F q lo ρ σ).bind fun lo σ => (evO F q hi ρ σ).bind fun hi σ => R.lift σ (evSlice σ a lo hi)
  | .and a b, ρ, σ => (evE F q a ρ σ).bind fun a σ => (R.lift σ (truthy σ a)).bind fun t σ => if t then evE F q b ρ σ else .ok a σ
  | .or a b, ρ, σ => (evE F q a ρ σ).bind fun a σ => (R.lift σ (truthy σ a)).bind fun t σ => if t then .ok a σ else evE F q b ρ σ
  | .tup es, ρ, σ => (evL F q es ρ σ).bind fun vs σ => .ok (.tup vs) σ
  | .list es, ρ, σ => (evL F q es ρ σ).bind fun vs σ => .ok (.lst vs) σ
  | .dict0, _, σ => .ok (.ref σ.length) (σ ++ [.dict []])
  | .dict1 k v, ρ, σ => (evE F q k ρ (σ ++ [.dict []])).bind fun a σ₁ => (evE F q v ρ σ₁).bind fun b σ₂ => doDict1 σ.length σ₂ a b
  | .comp elt k src cond, ρ, σ => if q then .stuck else (evL F q src ρ σ).bind fun vs σ => (R.lift σ (itemsBy σ k vs)).bind fun it σ =>
      (foldItems it (fun x acc σ => (evC F q cond (ρ ++ [x]) σ).calm.bind fun t σ => if t then (evE F q elt (ρ ++ [x]) σ).calmE.bind fun y σ => (if acc.length < LIM then .ok (acc ++ [y]) σ else .stuck) else .ok acc σ) [] σ).bind fun acc σ => .ok (.lst acc) σ
  | .call f args, ρ, σ => (evL F q args ρ σ).bind fun vs σ => F f vs σ
  | .callm f o args, ρ, σ => (evE F q o ρ σ).bind fun o σ => if isInst σ o then (evL F q args ρ σ).bind fun vs σ => F f (o :: vs) σ else .stuck
  | .new, _, σ => (F 0 [.ref σ.length] (σ ++ [.inst []])).bind (newEnd σ.length)
  | .attr e a, ρ, σ => (evE F q e ρ σ).bind fun o σ => R.lift σ (doAttr σ o a)
  | .sm o a b, ρ, σ => (evE F q a ρ σ).bind fun a σ => if selfOk o σ a then (evE F q b ρ σ).bind fun b σ => R.lift σ (ev2 o σ a b) else .stuck
  | .append l x, ρ, σ => (evE F q l ρ σ).bind fun o σ => if isListV σ o then (evE F q x ρ σ).bind fun x σ => doAppend σ o x else .stuck
  | .pop l, ρ, σ => (evE F q l ρ σ).bind fun o σ => doPop σ o
  | .clear l, ρ, σ => (evE F q l ρ σ).bind fun o σ => doClear σ o
  | .trk e, ρ, σ => (evE F q e ρ σ).bind fun v σ => doTrk σ v
noncomputable def evL (F : Calls) (q : Bool) : List CE → List V → Sto → R (List V)
  | [], _, σ => .ok [] σ
  | e :: es, ρ, σ => (evE F q e ρ σ).bind fun v σ => (evL F q es ρ σ).bind fun vs σ => .ok (v :: vs) σ
noncomputable def evO (F : Calls) (q : Bool) : Option CE → List V → Sto → R (Option Int)
  | none, _, σ => .ok none σ
  | some e, ρ, σ => (evE F q e ρ σ).bind fun v σ => match v with
    | .int i => .ok (some i) σ
    | _ => .stuck
noncomputable def evC (F : Calls) (q : Bool) : Option CE → List V → Sto → R Bool
  | none, _, σ => .ok true σ
  | some e, ρ, σ => (evE F q e ρ σ).bind fun v σ => R.lift σ (truthy σ v)
noncomputable def evChain (F : Calls) (q : Bool) : List P2 → List CE → V → List V → Sto → R V
  | [op], [e], a, ρ, σ => if loud2 op && q then .stuck else (evE F q e ρ σ).bind fun b σ => R.lift σ (ev2 op σ a b)
  | op :: ops, e :: es, a, ρ, σ => if loud2 op && q then .stuck else (evE F q e ρ σ).bind fun b σ => (R.lift σ (ev2 op σ a b)).bind fun c σ => (R.lift σ (truthy σ c)).bind fun t σ => if t then evChain F q ops es b ρ σ else .ok c σ
  | _, _, _, _, _ => .stuck
end
noncomputable def whileL (c : List V → Sto → R Bool) (b : List V → Sto → R Fl) : Nat → List V → Sto → R Fl
  | 0, _, _ => .stuck
  | n + 1, ρ, σ => (c ρ σ).bind fun t σ => if t then (b ρ σ).bind fun fl σ => match fl with
      | .next ρ => whileL c b n ρ σ
      | .ret v => .ok (.ret v) σ
    else .ok (.next ρ) σ
noncomputable def forIt (it : Items) (f : V → List V → Sto → R Fl) : Nat → Nat → List V → Sto → R Fl
  | 0, _, _, _ => .stuck
  | fuel + 1, i, ρ, σ => match nextIt σ it i with
    | none => .stuck
    | some none => .ok (.next ρ) σ
    | some (some x) => (f x ρ σ).bind fun fl σ => match fl with
      | .next ρ => forIt it f fuel (i + 1) ρ σ
      | .ret v => .ok (.ret v) σ
noncomputable def forItems (it : Items) (f : V → List V → Sto → R Fl) (ρ : List V) (σ : Sto) : R Fl := forIt it f (itFuel σ it) 0 ρ σ
noncomputable def R.orElse {α β : Type} (r : R α) (f : α → Sto → R β) (g : Cls → Sto → R β) : R β :=
  match r with
  | .ok a σ => f a σ
  | .exc c σ => g c σ
  | .stuck => .stuck
noncomputable def tkFl (k : TK) (v : V) (ρ : List V) : Fl :=
  match k with
  | .ret => .ret v
  | .asg i => .next (ρ.set i v)
  | .exp => .next ρ
noncomputable def Fl.unset (i : Nat) : Fl → Fl
  | .next ρ => .next (ρ.set i .undef)
  | .ret v => .ret v
noncomputable def hdEnv (as : Option Nat) (c : Cls) (ρ : List V) : List V :=
  match as with
  | none => ρ
  | some i => ρ.set i (.exc c)
noncomputable def hdEnd (as : Option Nat) (fl : Fl) : Fl :=
  match as with
  | none => fl
  | some i => fl.unset i
noncomputable def exH (Fq : Calls) : List Hd → List V → Cls → Sto → R Fl
  | [], _, _, _ => .stuck
  | h :: hs, ρ, c, σ => if c.sub h.cls then ((evE Fq true h.e (hdEnv h.as c ρ) σ).calm.bind fun v σ => .ok (hdEnd h.as (tkFl h.tk v (hdEnv h.as c ρ))) σ) else exH Fq hs ρ c σ
noncomputable def wFuel : Nat := 100000
mutual
noncomputable def exS (F Fq : Calls) (q : Bool) : CS → List V → Sto → R Fl
  | .asg i e, ρ, σ => (evE F q e ρ σ).bind fun v σ => .ok (.next (ρ.set i v)) σ
  | .setItem o i v, ρ, σ => (evE F q v ρ σ).bind fun v σ => (evE F q o ρ σ).bind fun o σ => (evE F q i ρ σ).bind fun i σ => (doSetItem σ o i v).bind fun _ σ => .ok (.next ρ) σ
  | .setAttr o a v, ρ, σ => (evE F q v ρ σ).bind fun v σ => (evE F q o ρ σ).bind fun o σ => (doSetAttr σ o a v).bind fun _ σ => .ok (.next ρ) σ
  | .unpack3 i j k e, ρ, σ => if q then .stuck else (evE F q e ρ σ).bind fun v σ => match v with
    | .tup [x, y, z] => .ok (.next (((ρ.set i x).set j y).set k z)) σ
    | _ => .stuck
  | .ite c a b, ρ, σ => (evE F q c ρ σ).bind fun v σ => (R.lift σ (truthy σ v)).bind fun t σ => if t then exL F Fq q a ρ σ else exL F Fq q b ρ σ
  | .for i k src body, ρ, σ => if q then .stuck else (evL F q src ρ σ).bind fun vs σ => (R.lift σ (itemsBy σ k vs)).bind fun it σ =>
      forItems it (fun x ρ σ => exL F Fq q body (ρ.set i x) σ) ρ σ
  | .while c body, ρ, σ => if q then .stuck else whileL (fun ρ σ => ((evE F q c ρ σ).bind fun v σ => R.lift σ (truthy σ v)).calm) (fun ρ σ => (exL F Fq q body ρ σ).calm) wFuel ρ σ
  | .ret e, ρ, σ => (evE F q e ρ σ).bind fun v σ => .ok (.ret v) σ
  | .exp e, ρ, σ => (evE F q e ρ σ).bind fun _ σ => .ok (.next ρ) σ
  | .raise c, _, σ => if q then .stuck else .exc c σ
  | .try k e hs, ρ, σ => if q then .stuck else (evE F q e ρ σ).orElse (fun v σ => .ok (tkFl k v ρ) σ) (exH Fq hs ρ)
  | .pass, ρ, σ => .ok (.next ρ) σ
  | .stuck, _, _ => .stuck
noncomputable def exL (F Fq : Calls) (q : Bool) : List CS → List V → Sto → R Fl
  | [], ρ, σ => .ok (.next ρ) σ
  | s :: ss, ρ, σ => (exS F Fq q s ρ σ).bind fun fl σ => match fl with
    | .next ρ => exL F Fq q ss ρ σ
    | .ret v => .ok (.ret v) σ
end
noncomputable def fnEnd : Fl → Sto → R V
  | .ret v, σ => .ok v σ
  | .next _, σ => .ok .none σ
noncomputable def callFn (T : Nat → Option Fn) : Nat → Bool → Calls
  | 0, _, _, _, _ => .stuck
  | d + 1, q, f, args, σ => match T f with
    | none => .stuck
    | some fn => if args.length = fn.params then
        (exL (callFn T d q) (callFn T d true) q fn.body (args ++ List.replicate (fn.slots - fn.params) .undef) σ).bind fnEnd
      else .stuck
end Mine
end

/-! # Comp -/
section
set_option autoImplicit false
namespace Mine
theorem zAA {α : Type} {x : α} {P : Prop} (h : none = some x) : P := nomatch h
theorem ff_tt {P : Prop} (h : false = true) : P := nomatch h
open PySem
structure Ctx where
  fns : List (Str × Nat)
  meths : List (Str × Nat)
  consts : List (Str × V)
  excs : List (Str × Cls)
  attrs : List (Str × Nat)
  book : Bool
  trks : List (Nat × Nat × Nat)
noncomputable def kindNames : List (Str × Kd) := [("int", .int), ("bool", .bool), ("str", .str), ("list", .list), ("tuple", .tuple)
  , ("ValueError", .exc .ValueError)
  ]
noncomputable def kindOf? (C : Ctx) (x : Str) : Option Kd := if (C.fns.lookup x).isSome then none else kindNames.lookup x
noncomputable def attrNames : List (Str × Nat) := [("entries", 0), ("history", 1)]
noncomputable def lastIdx (x : Str) : List Str → Option Nat
  | [] => none
  | y :: ys => match lastIdx x ys with
    | some i => some (i + 1)
    | none => if y == x then some 0 else none
noncomputable def isVar (sc : Scope) (x : Str) : Bool := match sc.names.lookup x with
  | some .local | some .cell | some .free => true
  | _ => false
noncomputable def isGlob (sc : Scope) (x : Str) : Bool := sc.names.lookup x == some .globalImplicit
noncomputable def cmpOf : CmpOp → Option P2
  | .Eq => some .eq | .NotEq => some .ne | .Lt => some .lt | .LtE => some .le | .Gt => some .gt | .GtE => some .ge
  | .In => some .isIn | .NotIn => some .notIn | _ => none
noncomputable def binOf : Operator → Option P2
  | .Add => some .add | .Sub => some .sub | .Mult => some .mul | .FloorDiv => some .fdiv | .Mod => some .mod
  | _ => none
noncomputable def b1Names : List (Str × P1) := [("len", .len),
  ("all", .all), ("list", .toList), ("tuple", .toTup), ("sum", .sum)]
noncomputable def b2Names : List (Str × P2) := [("min", .min), ("max", .max)]
noncomputable def m1Names : List (Str × P2) := [("join", .join)
  , ("count", .count)
  ]
noncomputable def trkAt (C : Ctx) (p : Pos) (e : CE) : CE := if C.trks.contains (p.line, p.col, p.endCol) then .trk e else e
noncomputable def foldBool (isAnd : Bool) : List CE → Option CE
  | [] => none
  | [e] => some e
  | e :: es => (foldBool isAnd es).map fun r => if isAnd then .and e r else .or e r
noncomputable def cName (C : Ctx) (Γ : List Str) (sc : Scope) (x : Str) : Option CE :=
  if x == ("__debug__" : Str) || x == ("__classdict__" : Str) then none else if isVar sc x then (lastIdx x Γ).map .var else if isGlob sc x then (C.consts.lookup x).map .lit else none
noncomputable def dot0 : Str := ".0"
noncomputable def compOk (Γ : List Str) (sc scope : Scope) (x : Str) : Bool :=
  scope.kind == .function && scope.names.lookup x == some .local && !Γ.contains dot0 && x != dot0 &&
    scope.names.all fun p => match p.2 with
      | .cell => false
      | .local => (p.1 == x || p.1 == dot0) && scope.names.lookup p.1 == some .local
      | .free => sc.names.lookup p.1 == some .cell || sc.names.lookup p.1 == some .free
      | _ => true
inductive EV where
  | non
  | str (s : Str)
  | name (x : Str)
  | call (f : Expr) (a : List Expr) (k : List Keyword)
  | slice (lo hi : Option Expr)
  | attr (o : Expr) (m : Str) (p : Pos)
  | sub (o i : Expr)
  | star
  | lcomp
  | other
noncomputable def eview : Expr → EV
  | .Constant .none _ _ => .non
  | .Constant (.str s) _ _ => .str s
  | .Name x _ => .name x
  | .Call f a k _ => .call f a k
  | .Slice lo hi none _ => .slice lo hi
  | .Attribute o m p => .attr o m p
  | .Subscript o i _ => .sub o i
  | .Starred .. => .star
  | .ListComp .. => .lcomp
  | _ => .other
noncomputable def EVOk (e : Expr) : EV → Prop
  | .non => ∃ k p, e = .Constant .none k p
  | .str s => ∃ k p, e = .Constant (.str s) k p
  | .name x => ∃ p, e = .Name x p
  | .call f a k => ∃ p, e = .Call f a k p
  | .slice lo hi => ∃ p, e = .Slice lo hi none p
  | .attr o m p => e = .Attribute o m p
  | .sub o i => ∃ p, e = .Subscript o i p
  | _ => True
theorem zBM (e : Expr) : EVOk e (eview e) := by
  cases e with
  | Constant k n p =>
    cases k with
    | none => exact ⟨_, _, rfl⟩
    | str s => exact ⟨_, _, rfl⟩
    | _ => exact True.intro
  | Name x p => exact ⟨_, rfl⟩
  | Call f a k p => exact ⟨_, rfl⟩
  | Slice lo hi st p =>
    cases st with
    | none => exact ⟨_, rfl⟩
    | some _ => exact True.intro
  | Attribute o m p => exact (rfl : Expr.Attribute o m p = .Attribute o m p)
  | Subscript o i p => exact ⟨_, rfl⟩
  | _ => exact True.intro
noncomputable def EV.isNon : EV → Bool
  | .non => true
  | _ => false
noncomputable def EV.str? : EV → Option Str
  | .str s => some s
  | _ => none
noncomputable def EV.name? : EV → Option Str
  | .name x => some x
  | _ => none
noncomputable def EV.call? : EV → Option (Expr × List Expr × List Keyword)
  | .call f a k => some (f, a, k)
  | _ => none
noncomputable def EV.slice? : EV → Option (Option Expr × Option Expr)
  | .slice l h => some (l, h)
  | _ => none
noncomputable def EV.attr? : EV → Option (Expr × Str × Pos)
  | .attr o m p => some (o, m, p)
  | _ => none
noncomputable def EV.sub? : EV → Option (Expr × Expr)
  | .sub o i => some (o, i)
  | _ => none
noncomputable def EV.isStar : EV → Bool
  | .star => true
  | _ => false
noncomputable def EV.isComp : EV → Bool
  | .lcomp => true
  | _ => false
noncomputable def EV.noSuper : EV → Bool
  | .call f [] [] => (eview f).name?.isNone
  | _ => true
noncomputable def isStar (e : Expr) : Bool := (eview e).isStar
noncomputable def isComp (e : Expr) : Bool := (eview e).isComp
noncomputable def noSuper (e : Expr) : Bool := (eview e).noSuper
noncomputable def isNoneC (e : Expr) : Bool := (eview e).isNon
noncomputable def nameOf? (e : Expr) : Option Str := (eview e).name?
noncomputable def callParts? (e : Expr) : Option (Expr × List Expr × List Keyword) := (eview e).call?
noncomputable def sliceParts? (e : Expr) : Option (Option Expr × Option Expr) := (eview e).slice?
noncomputable def attrParts? (e : Expr) : Option (Expr × Str × Pos) := (eview e).attr?
noncomputable def subParts? (e : Expr) : Option (Expr × Expr) := (eview e).sub?
noncomputable def strC? (e : Expr) : Option Str := (eview e).str?
theorem isNoneC_eq {e : Expr} (h : isNoneC e = true) : ∃ k p, e = .Constant .none k p := by
  have hv := zBM e
  have h : (eview e).isNon = true := h
  generalize eview e = v at hv h
  cases v with
  | non => exact hv
  | _ => exact ff_tt h
theorem nameOf?_eq {e : Expr} {x : Str} (h : nameOf? e = some x) : ∃ p, e = .Name x p := by
  have hv := zBM e
  have h : (eview e).name? = some x := h
  generalize eview e = v at hv h
  cases v with
  | name => cases h; exact hv
  | _ => exact zAA h
theorem callParts?_eq {e fn : Expr} {args : List Expr} {kws : List Keyword} (h : callParts? e = some (fn, args, kws)) : ∃ p, e = .Call fn args kws p := by
  have hv := zBM e
  have h : (eview e).call? = some _ := h
  generalize eview e = v at hv h
  cases v with
  | call => cases h; exact hv
  | _ => exact zAA h
theorem sliceParts?_eq {e : Expr} {lo hi : Option Expr} (h : sliceParts? e = some (lo, hi)) : ∃ p, e = .Slice lo hi none p := by
  have hv := zBM e
  have h : (eview e).slice? = some _ := h
  generalize eview e = v at hv h
  cases v with
  | slice => cases h; exact hv
  | _ => exact zAA h
theorem attrParts?_eq {e o : Expr} {m : Str} {p : Pos} (h : attrParts? e = some (o, m, p)) : e = .Attribute o m p := by
  have hv := zBM e
  have h : (eview e).attr? = some _ := h
  generalize eview e = v at hv h
  cases v with
  | attr => cases h; exact hv
  | _ => exact zAA h
theorem subParts?_eq {e : Expr} {p : Expr × Expr} (h : subParts? e = some p) : ∃ q, e = .Subscript p.1 p.2 q := by
  have hv := zBM e
  have h : (eview e).sub? = some _ := h
  generalize eview e = v at hv h
  cases v with
  | sub => cases h; exact hv
  | _ => exact zAA h
theorem strC?_eq {e : Expr} {s : Str} (h : strC? e = some s) : ∃ k p, e = .Constant (.str s) k p := by
  have hv := zBM e
  have h : (eview e).str? = some _ := h
  generalize eview e = v at hv h
  cases v with
  | str => cases h; exact hv
  | _ => exact zAA h
section
variable (C : Ctx) (rec : List Str → Scope → Expr → Option CE)
noncomputable def cL (Γ : List Str) (sc : Scope) : List Expr → Option (List CE)
  | [] => some []
  | e :: es => if isStar e then none else (rec Γ sc e).bind fun a => (cL Γ sc es).map fun as => a :: as
noncomputable def cOpt (Γ : List Str) (sc : Scope) : Option Expr → Option (Option CE)
  | none => some none
  | some e => (rec Γ sc e).map some
noncomputable def cIf (Γ : List Str) (sc : Scope) : List Expr → Option (Option CE)
  | [] => some none
  | [e] => (rec Γ sc e).map some
  | _ => none
noncomputable def cConst : Const → Option CE
  | .none => some (.lit .none)
  | .bool b => some (.lit (.bool b))
  | .int i => some (.lit (.int i))
  | .str s => if s.length ≤ 1000 && PyData.strOk s then some (.lit (.str s)) else none
  | _ => none
noncomputable def cCmp (Γ : List Str) (sc : Scope) (a : Expr) (ops : List CmpOp) (cs : List Expr) : Option CE :=
  if ops.length != cs.length then none else match cs, ops with
    | [b], [op] =>
      (cmpOf op).bind fun o => (rec Γ sc a).bind fun x => (rec Γ sc b).map fun y => .p2 o x y
    | cs, ops => (ops.mapM cmpOf).bind fun os => (rec Γ sc a).bind fun x => (cL rec Γ sc cs).map fun ys => .chain x os ys
noncomputable def cSrc (Γ : List Str) (sc : Scope) (e : Expr) : Option (SK × List CE) :=
  match callParts? e with
  | some (fn, args, kws) => (match nameOf? fn with
    | some f => if f == ("range" : Str) then (if isGlob sc f && kws.isEmpty then (cL rec Γ sc args).bind fun es => (match es with
        | [a] => some (.range1, [a])
        | _ => none) else none)
      else (rec Γ sc e).map fun a => (.val, [a])
    | none => (rec Γ sc e).map fun a => (.val, [a]))
  | none => (rec Γ sc e).map fun a => (.val, [a])
noncomputable def cComp (Γ : List Str) (sc : Scope) (elt : Expr) (gens : List Comprehension) (scope : Scope) : Option CE :=
  match gens with
  | [g] => (nameOf? g.target).bind fun x =>
      if g.is_async != 0 || !compOk Γ sc scope x then none else (cSrc rec Γ sc g.iter).bind fun s => (cIf rec (Γ ++ [x]) scope g.ifs).bind fun c => (rec (Γ ++ [x]) scope elt).map fun e => .comp e s.1 s.2 c
  | _ => none
noncomputable def cSub (Γ : List Str) (sc : Scope) (o i : Expr) (pos : Pos) : Option CE :=
  match sliceParts? i with
  | some (lo, hi) => (rec Γ sc o).bind fun a => (cOpt rec Γ sc lo).bind fun l => (cOpt rec Γ sc hi).map fun h => trkAt C pos (.slice a l h)
  | none => (rec Γ sc o).bind fun a => (rec Γ sc i).map fun b => .p2 .index a b
noncomputable def cMethB (Γ : List Str) (sc : Scope) (o : Expr) (m : Str) (args : List Expr) : Option CE :=
  match args with
  | [x] => if isStar x then none else if m == ("append" : Str) then (rec Γ sc o).bind fun a => (rec Γ sc x).map fun b => .append a b
    else (m1Names.lookup m).bind fun p => (rec Γ sc o).bind fun a => (rec Γ sc x).map fun b => .sm p a b
  | [] => if m == ("pop" : Str) then (rec Γ sc o).map .pop else
    none
  | _ => none
noncomputable def cMeth (Γ : List Str) (sc : Scope) (o : Expr) (m : Str) (apos : Pos) (args : List Expr) (pos : Pos) : Option CE :=
  if !noSuper o || apos.endLine != pos.line then none else match C.meths.lookup m with
    | some n => (rec Γ sc o).bind fun a => (cL rec Γ sc args).map fun es => .callm n a es
    | none => cMethB rec Γ sc o m args
noncomputable def excOf (sc : Scope) (x : Str) : Option Cls := if isGlob sc x && x != ("__debug__" : Str) && x != ("ValueError" : Str) then C.excs.lookup x else none
noncomputable def cIsinst (Γ : List Str) (sc : Scope) (args : List Expr) : Option CE :=
  match args with
  | [x, k] => if isStar x then none else (nameOf? k).bind fun kn => if isGlob sc kn then (match kindOf? C kn with
    | some kd => (rec Γ sc x).map fun a => .p1 (.isInst kd) a
    | none => (excOf C sc kn).bind fun k => (rec Γ sc x).map fun a => .p1 (.isInst (.exc k)) a) else none
  | _ => none
noncomputable def cFun (Γ : List Str) (sc : Scope) (f : Str) (args : List Expr) (pos : Pos) : Option CE :=
  if !isGlob sc f then none
  else if f == ("isinstance" : Str) then cIsinst C rec Γ sc args
  else (cL rec Γ sc args).bind fun es => match C.fns.lookup f with
    | some n => some (.call n es)
    | none => if C.book && f == ("Book" : Str) then (if es.isEmpty then some .new else none) else (match es with
      | [a] => (b1Names.lookup f).map fun o => if f == ("list" : Str) then trkAt C pos (.p1 o a) else .p1 o a
      | [a, b] => (b2Names.lookup f).map fun o => .p2 o a b
      | _ => none)
noncomputable def cCall (Γ : List Str) (sc : Scope) (fn : Expr) (args : List Expr) (kws : List Keyword) (pos : Pos) : Option CE :=
  if !kws.isEmpty || 20 < args.length then none else match attrParts? fn with
    | some (o, m, apos) => cMeth C rec Γ sc o m apos args pos
    | none => (nameOf? fn).bind fun f => cFun C rec Γ sc f args pos
noncomputable def cDictA (Γ : List Str) (sc : Scope) (v : Expr) : Option Expr → Option CE
  | some k => (rec Γ sc k).bind fun a => (rec Γ sc v).map fun b => .dict1 a b
  | none => none
noncomputable def cDict (Γ : List Str) (sc : Scope) (ks : List (Option Expr)) : List Expr → Option CE
  | [] => if ks.isEmpty then some .dict0 else none
  | v :: vs => if vs.isEmpty then (match ks with
    | [k] => cDictA rec Γ sc v k
    | _ => none) else none
noncomputable def stepE (Γ : List Str) (sc : Scope) : Expr → Option CE
  | .Constant k _ _ => cConst k
  | .Name x _ => cName C Γ sc x
  | .BoolOp op vs _ => (cL rec Γ sc vs).bind fun es => foldBool (op == .And) es
  | .BinOp l op r pos => (binOf op).bind fun o => (rec Γ sc l).bind fun a => (rec Γ sc r).map fun b => trkAt C pos (.p2 o a b)
  | .UnaryOp .Not x _ => (rec Γ sc x).map (.p1 .not)
  | .UnaryOp .USub x _ => (rec Γ sc x).map (.p1 .neg)
  | .Compare a ops cs _ => cCmp rec Γ sc a ops cs
  | .List es pos => if es.length ≤ 1000 then (cL rec Γ sc es).map fun es => trkAt C pos (.list es) else none
  | .Tuple es _ _ => if es.length ≤ 1000 then (cL rec Γ sc es).map .tup else none
  | .ListComp elt gens scope pos => (cComp rec Γ sc elt gens scope).map fun e => trkAt C pos e
  | .Subscript o i pos => cSub C rec Γ sc o i pos
  | .Call fn args kws pos => cCall C rec Γ sc fn args kws pos
  | .Attribute o m _ => (C.attrs.lookup m).bind fun k => if noSuper o then (rec Γ sc o).map fun a => .attr a k else none
  | .Dict ks vs _ => cDict rec Γ sc ks vs
  | _ => none
end
noncomputable def cE (C : Ctx) : Nat → List Str → Scope → Expr → Option CE
  | 0 => fun _ _ _ => none
  | n + 1 => stepE C (cE C n)
noncomputable def deep : Nat := 30
noncomputable def slotOf (Γ : List Str) (sc : Scope) (x : Str) : Option Nat := if sc.names.lookup x == some .local || sc.names.lookup x == some .cell then lastIdx x Γ else none
section
variable (C : Ctx) (Γ : List Str) (sc : Scope) (rec : Stmt → CS)
noncomputable def cAsgA (t e : Expr) : Option CS :=
  match attrParts? t with
  | some p => (C.attrs.lookup p.2.1).bind fun k => if isComp e then none else (cE C deep Γ sc e).bind fun v => (cE C deep Γ sc p.1).map fun b => .setAttr b k v
  | none => none
noncomputable def cAsg (t e : Expr) : Option CS :=
  match nameOf? t with
  | some x => (slotOf Γ sc x).bind fun i => (cE C deep Γ sc e).map (.asg i)
  | none => (match subParts? t with
    | some p => if isComp e then none else (cE C deep Γ sc e).bind fun v => (cE C deep Γ sc p.1).bind fun a => (cE C deep Γ sc p.2).map fun b => .setItem a b v
    | none => cAsgA C Γ sc t e)
noncomputable def cTKr : Option Expr → Option (TK × CE)
  | some e => (cE C deep Γ sc e).map fun c => (.ret, c)
  | none => none
noncomputable def cTKa (e : Expr) : List Expr → Option (TK × CE)
  | [t] => if isComp e then none else (nameOf? t).bind fun x => (slotOf Γ sc x).bind fun i => (cE C deep Γ sc e).map fun c => (.asg i, c)
  | _ => none
noncomputable def cTK1 : Stmt → Option (TK × CE)
  | .Return v _ => cTKr C Γ sc v
  | .Assign ts e _ => cTKa C Γ sc e ts
  | .Expr e _ => if isComp e then none else (cE C deep Γ sc e).map fun c => (.exp, c)
  | _ => none
noncomputable def cTK : List Stmt → Option (TK × CE)
  | [s] => cTK1 C Γ sc s
  | _ => none
noncomputable def cAs : Option Str → Option (Option Nat)
  | none => some none
  | some n => if sc.names.lookup n == some .local then (slotOf Γ sc n).map some else none
noncomputable def cHd : ExceptHandler → Option Hd
  | .ExceptHandler (some t) n body _ => (nameOf? t).bind fun x => (excOf C sc x).bind fun k => (cAs Γ sc n).bind fun as => (cTK C Γ sc body).map fun p => ⟨k, as, p.1, p.2⟩
  | _ => none
noncomputable def cHds : List ExceptHandler → Option (List Hd)
  | [] => some []
  | h :: hs => (cHd C Γ sc h).bind fun a => (cHds hs).map fun as => a :: as
noncomputable def cRaiseA (fn : Expr) (kws : List Keyword) : List Expr → Option CS
  | [x] => if kws.isEmpty then (strC? x).bind fun s => (nameOf? fn).bind fun f => if s.length ≤ 1000 && PyData.strOk s then (excOf C sc f).map .raise else none else none
  | _ => none
noncomputable def cRaise (e : Expr) : Option CS := (callParts? e).bind fun p => cRaiseA C sc p.1 p.2.2 p.2.1
noncomputable def stepS : Stmt → Option CS
  | .Return (some e) _ => (cE C deep Γ sc e).map .ret
  | .Assign [t] e _ => cAsg C Γ sc t e
  | .If t a b _ => (cE C deep Γ sc t).map fun t => .ite t (a.map rec) (b.map rec)
  | .For x iter body [] _ => (nameOf? x).bind fun x => (slotOf Γ sc x).bind fun i => (cSrc (cE C deep) Γ sc iter).map fun s => .for i s.1 s.2 (body.map rec)
  | .Expr e _ => if isComp e then none else (cE C deep Γ sc e).map .exp
  | .Pass _ => some .pass
  | .Raise (some e) none _ => cRaise C sc e
  | .Try body (h :: hs) [] [] _ => (cTK C Γ sc body).bind fun p => (cHds C Γ sc (h :: hs)).map fun hs => .try p.1 p.2 hs
  | _ => none
end
noncomputable def cS (C : Ctx) (Γ : List Str) (sc : Scope) : Nat → Stmt → CS
  | 0 => fun _ => .stuck
  | n + 1 => fun s => (stepS C Γ sc (cS C Γ sc n) s).getD .stuck
noncomputable def cSL (C : Ctx) (Γ : List Str) (sc : Scope) (l : List Stmt) : List CS := l.map (cS C Γ sc deep)
noncomputable def slotsOf (params : List Str) (sc : Scope) : List Str :=
  params ++ (sc.names.filter fun p => (p.2 == .local || p.2 == .cell) && !params.contains p.1).map (·.1)
end Mine
end

/-! # Xl -/
section
set_option autoImplicit false
namespace Mine
open PySem
section
variable (F Fq : Calls) (q : Bool) (ρ : List V) (σ : Sto)
@[simp] theorem x_lit (v : V) : evE F q (.lit v) ρ σ = .ok v σ := id rfl
@[simp] theorem x_var (i : Nat) : evE F q (.var i) ρ σ = R.lift σ (readVar ρ i) := id rfl
@[simp] theorem x_p1 (o : P1) (a : CE) : evE F q (.p1 o a) ρ σ = if loud1 o && q then .stuck else (evE F q a ρ σ).bind fun a σ => R.lift σ (ev1 o σ a) := id rfl
@[simp] theorem x_p2 (o : P2) (a b : CE) : evE F q (.p2 o a b) ρ σ = if loud2 o && q then .stuck else (evE F q a ρ σ).bind fun a σ => (evE F q b ρ σ).bind fun b σ => R.lift σ (ev2 o σ a b) := id rfl
@[simp] theorem zDk (a : CE) (ops : List P2) (es : List CE) : evE F q (.chain a ops es) ρ σ = (evE F q a ρ σ).bind fun a σ => evChain F q ops es a ρ σ := id rfl
@[simp] theorem x_slice (a : CE) (lo hi : Option CE) : evE F q (.slice a lo hi) ρ σ = (evE F q a ρ σ).bind fun a σ => (evO F q lo ρ σ).bind fun lo σ => (evO F q hi ρ σ).bind fun hi σ => R.lift σ (evSlice σ a lo hi) := id rfl
@[simp] theorem x_and (a b : CE) : evE F q (.and a b) ρ σ = (evE F q a ρ σ).bind fun a σ => (R.lift σ (truthy σ a)).bind fun t σ => if t then evE F q b ρ σ else .ok a σ := id rfl
@[simp] theorem x_or (a b : CE) : evE F q (.or a b) ρ σ = (evE F q a ρ σ).bind fun a σ => (R.lift σ (truthy σ a)).bind fun t σ => if t then .ok a σ else evE F q b ρ σ := id rfl
@[simp] theorem x_tup (es : List CE) : evE F q (.tup es) ρ σ = (evL F q es ρ σ).bind fun vs σ => .ok (.tup vs) σ := id rfl
@[simp] theorem x_list (es : List CE) : evE F q (.list es) ρ σ = (evL F q es ρ σ).bind fun vs σ => .ok (.lst vs) σ := id rfl
@[simp] theorem x_call (f : Nat) (args : List CE) : evE F q (.call f args) ρ σ = (evL F q args ρ σ).bind fun vs σ => F f vs σ := id rfl
@[simp] theorem x_sm (o : P2) (a b : CE) : evE F q (.sm o a b) ρ σ = (evE F q a ρ σ).bind fun a σ => if selfOk o σ a then (evE F q b ρ σ).bind fun b σ => R.lift σ (ev2 o σ a b) else .stuck := id rfl
@[simp] theorem zHU (l x : CE) : evE F q (.append l x) ρ σ = (evE F q l ρ σ).bind fun o σ => if isListV σ o then (evE F q x ρ σ).bind fun x σ => doAppend σ o x else .stuck := id rfl
@[simp] theorem x_pop (l : CE) : evE F q (.pop l) ρ σ = (evE F q l ρ σ).bind fun o σ => doPop σ o := id rfl
@[simp] theorem x_clear (l : CE) : evE F q (.clear l) ρ σ = (evE F q l ρ σ).bind fun o σ => doClear σ o := id rfl
@[simp] theorem x_trk (e : CE) : evE F q (.trk e) ρ σ = (evE F q e ρ σ).bind fun v σ => doTrk σ v := id rfl
@[simp] theorem x_nil : evL F q [] ρ σ = .ok [] σ := id rfl
@[simp] theorem zHT (e : CE) (es : List CE) : evL F q (e :: es) ρ σ = (evE F q e ρ σ).bind fun v σ => (evL F q es ρ σ).bind fun vs σ => .ok (v :: vs) σ := id rfl
@[simp] theorem x_onone : evO F q none ρ σ = .ok none σ := id rfl
@[simp] theorem zFC (e : CE) : evO F q (some e) ρ σ = (evE F q e ρ σ).bind fun v σ => match v with | .int i => .ok (some i) σ | _ => .stuck := id rfl
@[simp] theorem x_cnone : evC F q none ρ σ = .ok true σ := id rfl
@[simp] theorem zFD (e : CE) : evC F q (some e) ρ σ = (evE F q e ρ σ).bind fun v σ => R.lift σ (truthy σ v) := id rfl
@[simp] theorem x_asg (i : Nat) (e : CE) : exS F Fq q (.asg i e) ρ σ = (evE F q e ρ σ).bind fun v σ => .ok (.next (ρ.set i v)) σ := id rfl
@[simp] theorem zFU (o i v : CE) : exS F Fq q (.setItem o i v) ρ σ = (evE F q v ρ σ).bind fun v σ => (evE F q o ρ σ).bind fun o σ => (evE F q i ρ σ).bind fun i σ => (doSetItem σ o i v).bind fun _ σ => .ok (.next ρ) σ := id rfl
@[simp] theorem x_ite (c : CE) (a b : List CS) : exS F Fq q (.ite c a b) ρ σ = (evE F q c ρ σ).bind fun v σ => (R.lift σ (truthy σ v)).bind fun t σ => if t then exL F Fq q a ρ σ else exL F Fq q b ρ σ := id rfl
@[simp] theorem x_ret (e : CE) : exS F Fq q (.ret e) ρ σ = (evE F q e ρ σ).bind fun v σ => .ok (.ret v) σ := id rfl
@[simp] theorem x_exp (e : CE) : exS F Fq q (.exp e) ρ σ = (evE F q e ρ σ).bind fun _ σ => .ok (.next ρ) σ := id rfl
@[simp] theorem x_unpack3 (i j k : Nat) (e : CE) : exS F Fq q (.unpack3 i j k e) ρ σ = if q then .stuck else (evE F q e ρ σ).bind fun v σ => match v with
    | .tup [x, y, z] => .ok (.next (((ρ.set i x).set j y).set k z)) σ
    | _ => .stuck := id rfl
@[simp] theorem x_try (k : TK) (e : CE) (hs : List Hd) : exS F Fq q (.try k e hs) ρ σ = if q then .stuck else (evE F q e ρ σ).orElse (fun v σ => .ok (tkFl k v ρ) σ) (exH Fq hs ρ) := id rfl
@[simp] theorem x_pass : exS F Fq q .pass ρ σ = .ok (.next ρ) σ := id rfl
@[simp] theorem x_lnil : exL F Fq q [] ρ σ = .ok (.next ρ) σ := id rfl
@[simp] theorem x_lcons (s : CS) (ss : List CS) : exL F Fq q (s :: ss) ρ σ = (exS F Fq q s ρ σ).bind fun fl σ => match fl with | .next ρ => exL F Fq q ss ρ σ | .ret v => .ok (.ret v) σ := id rfl
@[simp] theorem x_attr (e : CE) (a : Nat) : evE F q (.attr e a) ρ σ = (evE F q e ρ σ).bind fun o σ => R.lift σ (doAttr σ o a) := id rfl
@[simp] theorem x_callm (f : Nat) (o : CE) (args : List CE) : evE F q (.callm f o args) ρ σ = (evE F q o ρ σ).bind fun o σ => if isInst σ o then (evL F q args ρ σ).bind fun vs σ => F f (o :: vs) σ else .stuck := id rfl
@[simp] theorem x_new : evE F q .new ρ σ = (F 0 [.ref σ.length] (σ ++ [.inst []])).bind (newEnd σ.length) := id rfl
@[simp] theorem x_dict0 : evE F q .dict0 ρ σ = .ok (.ref σ.length) (σ ++ [.dict []]) := id rfl
@[simp] theorem x_dict1 (k v : CE) : evE F q (.dict1 k v) ρ σ = (evE F q k ρ (σ ++ [.dict []])).bind fun a σ₁ => (evE F q v ρ σ₁).bind fun b σ₂ => doDict1 σ.length σ₂ a b := id rfl
@[simp] theorem zFV (o : CE) (a : Nat) (v : CE) : exS F Fq q (.setAttr o a v) ρ σ = (evE F q v ρ σ).bind fun v σ => (evE F q o ρ σ).bind fun o σ => (doSetAttr σ o a v).bind fun _ σ => .ok (.next ρ) σ := id rfl
@[simp] theorem x_raise (c : Cls) : exS F Fq q (.raise c) ρ σ = if q then .stuck else .exc c σ := id rfl
@[simp] theorem x_ch1 (op : P2) (e : CE) (a : V) : evChain F q [op] [e] a ρ σ = if loud2 op && q then .stuck else (evE F q e ρ σ).bind fun b σ => R.lift σ (ev2 op σ a b) := id rfl
@[simp] theorem x_ch2 (op op' : P2) (ops : List P2) (e e' : CE) (es : List CE) (a : V) : evChain F q (op :: op' :: ops) (e :: e' :: es) a ρ σ = if loud2 op && q then .stuck else (evE F q e ρ σ).bind fun b σ => (R.lift σ (ev2 op σ a b)).bind fun c σ => (R.lift σ (truthy σ c)).bind fun t σ => if t then evChain F q (op' :: ops) (e' :: es) b ρ σ else .ok c σ := id rfl
@[simp] theorem x_comp (elt : CE) (k : SK) (src : List CE) (cond : Option CE) : evE F q (.comp elt k src cond) ρ σ = if q then .stuck else (evL F q src ρ σ).bind fun vs σ => (R.lift σ (itemsBy σ k vs)).bind fun it σ =>
      (foldItems it (fun x acc σ => (evC F q cond (ρ ++ [x]) σ).calm.bind fun t σ => if t then (evE F q elt (ρ ++ [x]) σ).calmE.bind fun y σ => (if acc.length < LIM then .ok (acc ++ [y]) σ else .stuck) else .ok acc σ) [] σ).bind fun acc σ => .ok (.lst acc) σ := id rfl
theorem x_for (i : Nat) (k : SK) (src : List CE) (body : List CS) : exS F Fq q (.for i k src body) ρ σ = if q then .stuck else (evL F q src ρ σ).bind fun vs σ => (R.lift σ (itemsBy σ k vs)).bind fun it σ =>
      forItems it (fun x ρ σ => exL F Fq q body (ρ.set i x) σ) ρ σ := id rfl
theorem x_while (c : CE) (body : List CS) : exS F Fq q (.while c body) ρ σ = if q then .stuck else whileL (fun ρ σ => ((evE F q c ρ σ).bind fun v σ => R.lift σ (truthy σ v)).calm) (fun ρ σ => (exL F Fq q body ρ σ).calm) wFuel ρ σ := id rfl
end
theorem forIt_zero {it : Items} {f : V → List V → Sto → R Fl} {i : Nat} {ρ : List V} {σ : Sto} : forIt it f 0 i ρ σ = .stuck := rfl
theorem zCv {it : Items} {f : V → List V → Sto → R Fl} {n i : Nat} {ρ : List V} {σ : Sto} : forIt it f (n + 1) i ρ σ = match nextIt σ it i with
    | none => .stuck
    | some none => .ok (.next ρ) σ
    | some (some x) => (f x ρ σ).bind fun fl σ => match fl with
      | .next ρ => forIt it f n (i + 1) ρ σ
      | .ret v => .ok (.ret v) σ := rfl
theorem zHD {β : Type} {it : Items} {f : V → β → Sto → R β} {i : Nat} {b : β} {σ : Sto} : foldIt it f 0 i b σ = .stuck := rfl
theorem zHE {β : Type} {it : Items} {f : V → β → Sto → R β} {n i : Nat} {b : β} {σ : Sto} : foldIt it f (n + 1) i b σ = match nextIt σ it i with
    | none => .stuck
    | some none => .ok b σ
    | some (some x) => (f x b σ).bind fun b σ => foldIt it f n (i + 1) b σ := rfl
theorem zGh {c : List V → Sto → R Bool} {b : List V → Sto → R Fl} {ρ : List V} {σ : Sto} : whileL c b 0 ρ σ = .stuck := rfl
theorem zGi {c : List V → Sto → R Bool} {b : List V → Sto → R Fl} {n : Nat} {ρ : List V} {σ : Sto} : whileL c b (n + 1) ρ σ = (c ρ σ).bind fun t σ => if t then (b ρ σ).bind fun fl σ => match fl with
      | .next ρ => whileL c b n ρ σ
      | .ret v => .ok (.ret v) σ
    else .ok (.next ρ) σ := rfl
theorem zBt {T : Nat → Option Fn} {d : Nat} {q : Bool} {k : Nat} {vs : List V} {σ : Sto} : callFn T (d + 1) q k vs σ = match T k with
    | none => .stuck
    | some fn => if vs.length = fn.params then
        (exL (callFn T d q) (callFn T d true) q fn.body (vs ++ List.replicate (fn.slots - fn.params) .undef) σ).bind fnEnd
      else .stuck := rfl
end Mine
end

/-! # Plain -/
section
set_option autoImplicit false
namespace Mine
open PySem
noncomputable def Gives (σ : Sto) (it : Items) (xs : List V) : Prop := it = .now xs ∨ ∃ n, it = .live n ∧ σ[n]? = some (.list xs)
theorem Gives.next {σ : Sto} {it : Items} {xs : List V} (h : Gives σ it xs) (i : Nat) : nextIt σ it i = some xs[i]? := by
  rcases h with rfl | ⟨n, rfl, h⟩
  · rfl
  · simp [nextIt, h]
theorem Gives.fuel {σ : Sto} {it : Items} {xs : List V} (h : Gives σ it xs) : itFuel σ it = xs.length + 1 := by
  rcases h with rfl | ⟨n, rfl, h⟩
  · rfl
  · simp [itFuel, h]
theorem fold_same {β : Type} {it : Items} {f : V → β → Sto → R β} {xs : List V} {σ : Sto} (g : Nat → β) (hit : Gives σ it xs)
    (h : ∀ i x, xs[i]? = some x → f x (g i) σ = .ok (g (i + 1)) σ) : foldItems it f (g 0) σ = .ok (g xs.length) σ := by
  have key : ∀ k i, k + i = xs.length → foldIt it f (k + 1) i (g i) σ = .ok (g xs.length) σ := by
    intro k
    induction k with
    | zero =>
      intro i hi
      obtain rfl : i = xs.length := by omega
      simp [foldIt, hit.next]
    | succ k ih =>
      intro i hi
      have hlt : i < xs.length := by omega
      rw [foldIt, hit.next, List.getElem?_eq_getElem hlt]
      simp only
      rw [h i _ (List.getElem?_eq_getElem hlt)]
      exact ih (i + 1) (by omega)
  have := key xs.length 0 rfl
  rw [foldItems, hit.fuel]
  exact this
theorem R.calm_ok {α : Type} {a : α} {σ : Sto} : (R.ok a σ).calm = .ok a σ := rfl
theorem zBf {F : Calls} {elt : CE} {k : SK} {src : List CE} {cond : Option CE} {ρ vs : List V} {σ σ₁ : Sto} {it : Items} {α : Type} {l : List α} {φ : α → V}
    (p : α → Bool) (g : α → V) (hsrc : evL F false src ρ σ = .ok vs σ₁) (hit : itemsBy σ₁ k vs = some it) (hg : Gives σ₁ it (l.map φ)) (hl : l.length < LIM)
    (hc : ∀ x ∈ l, evC F false cond (ρ ++ [φ x]) σ₁ = .ok (p x) σ₁) (he : ∀ x ∈ l, p x = true → evE F false elt (ρ ++ [φ x]) σ₁ = .ok (g x) σ₁) :
    evE F false (.comp elt k src cond) ρ σ = .ok (.lst ((l.filter p).map g)) σ₁ := by
  show ((evL F false src ρ σ).bind fun vs σ => (R.lift σ (itemsBy σ k vs)).bind fun it σ =>
      (foldItems it (fun x acc σ => (evC F false cond (ρ ++ [x]) σ).calm.bind fun t σ => if t then (evE F false elt (ρ ++ [x]) σ).calmE.bind fun y σ => (if acc.length < LIM then .ok (acc ++ [y]) σ else .stuck) else .ok acc σ) [] σ).bind fun acc σ => R.ok (V.lst acc) σ) = _
  simp only [hsrc, R.bind_ok, hit, R.lift_some]
  have := fold_same (f := fun x acc σ => (evC F false cond (ρ ++ [x]) σ).calm.bind fun t σ => if t then (evE F false elt (ρ ++ [x]) σ).calmE.bind fun y σ => (if acc.length < LIM then .ok (acc ++ [y]) σ else .stuck) else .ok acc σ)
    (fun i => ((l.take i).filter p).map g) hg (fun i x hx => by
      rw [List.getElem?_map] at hx
      cases hi : l[i]? with
      | none => rw [hi] at hx; cases hx
      | some a =>
        rw [hi] at hx
        obtain rfl : φ a = x := by simpa using hx
        have ha : a ∈ l := List.mem_of_getElem? hi
        have hlt : i < l.length := (List.getElem?_eq_some_iff.mp hi).1
        have ht : l.take (i + 1) = l.take i ++ [a] := by rw [List.take_add_one, hi]; rfl
        simp only [hc a ha, R.calm_ok, R.bind_ok, ht, List.filter_append, List.map_append]
        cases hp : p a with
        | false => simp [hp]
        | true =>
          have hle : (((l.take i).filter p).map g).length < LIM := by
            have := List.length_filter_le p (l.take i)
            rw [List.length_map]
            have := List.length_take_le i l
            omega
          simp [he a ha hp, R.calmE, R.calm_ok, hp, List.length_map] at hle ⊢
          exact hle)
  simp only [List.take_zero, List.filter_nil, List.map_nil, List.length_map, List.take_length] at this
  rw [this]
  rfl
theorem for_inv {it : Items} {f : V → List V → Sto → R Fl} {xs : List V} {ρ : List V} {σ : Sto} (I : Nat → List V → Sto → Prop) (hit : ∀ i ρ σ, I i ρ σ → Gives σ it xs) (h0 : I 0 ρ σ)
    (hs : ∀ i x ρ σ, xs[i]? = some x → I i ρ σ → ∃ ρ' σ', f x ρ σ = .ok (.next ρ') σ' ∧ I (i + 1) ρ' σ') :
    ∃ ρ' σ', forItems it f ρ σ = .ok (.next ρ') σ' ∧ I xs.length ρ' σ' := by
  have key : ∀ k i ρ σ, k + i = xs.length → I i ρ σ → ∃ ρ' σ', forIt it f (k + 1) i ρ σ = .ok (.next ρ') σ' ∧ I xs.length ρ' σ' := by
    intro k
    induction k with
    | zero =>
      intro i ρ σ hi h
      obtain rfl : i = xs.length := by omega
      exact ⟨ρ, σ, by simp [forIt, (hit _ _ _ h).next], h⟩
    | succ k ih =>
      intro i ρ σ hi h
      have hlt : i < xs.length := by omega
      obtain ⟨ρ', σ', e, h'⟩ := hs i _ ρ σ (List.getElem?_eq_getElem hlt) h
      obtain ⟨ρ'', σ'', e', h''⟩ := ih (i + 1) ρ' σ' (by omega) h'
      refine ⟨ρ'', σ'', ?_, h''⟩
      rw [forIt, (hit _ _ _ h).next, List.getElem?_eq_getElem hlt]
      simp only [e, R.bind_ok]
      exact e'
  rw [forItems, (hit _ _ _ h0).fuel]
  exact key xs.length 0 ρ σ rfl h0
section
variable (σ : Sto)
@[simp] theorem ev2_add (x y : Int) : ev2 .add σ (.int x) (.int y) = some (.int (x + y)) := rfl
@[simp] theorem ev2_sub (x y : Int) : ev2 .sub σ (.int x) (.int y) = some (.int (x - y)) := rfl
@[simp] theorem ev2_lt (x y : Int) : ev2 .lt σ (.int x) (.int y) = some (.bool (x < y)) := rfl
@[simp] theorem ev2_le (x y : Int) : ev2 .le σ (.int x) (.int y) = some (.bool (x ≤ y)) := rfl
@[simp] theorem ev2_gt (x y : Int) : ev2 .gt σ (.int x) (.int y) = some (.bool (x > y)) := rfl
@[simp] theorem ev2_ge (x y : Int) : ev2 .ge σ (.int x) (.int y) = some (.bool (x ≥ y)) := rfl
@[simp] theorem ev2_min (x y : Int) : ev2 .min σ (.int x) (.int y) = some (.int (if y < x then y else x)) := rfl
@[simp] theorem ev2_max (x y : Int) : ev2 .max σ (.int x) (.int y) = some (.int (if y > x then y else x)) := rfl
theorem zBq (x y : Int) (h : smallFactor x = true ∨ smallFactor y = true) : ev2 .mul σ (.int x) (.int y) = some (.int (x * y)) := by
  show (if (smallFactor x || smallFactor y) = true then some (V.int (x * y)) else none) = _
  rw [← Bool.or_eq_true] at h; rw [if_pos h]
theorem zAe (x y : Int) (h : (y == 0 || decide (1073741824 ≤ y.natAbs)) = false) : ev2 .fdiv σ (.int x) (.int y) = some (.int (x.fdiv y)) := by
  show (if (y == 0 || decide (1073741824 ≤ y.natAbs)) = true then none else some (V.int (x.fdiv y))) = _
  rw [h]; rfl
theorem zAW (x y : Int) (h : (y == 0) = false) : ev2 .mod σ (.int x) (.int y) = some (.int (x.fmod y)) := by
  show (if (y == 0) = true then none else some (V.int (x.fmod y))) = _
  rw [h]; rfl
@[simp] theorem eqV_int (a b : Int) : eqV σ (.int a) (.int b) = some (a == b) := rfl
@[simp] theorem zBO (x y : Int) : ev2 .eq σ (.int x) (.int y) = some (.bool (x == y)) := rfl
@[simp] theorem ev2_ne (x y : Int) : ev2 .ne σ (.int x) (.int y) = some (.bool (x != y)) := rfl
@[simp] theorem ev1_neg (x : Int) : ev1 .neg σ (.int x) = some (.int (-x)) := rfl
@[simp] theorem ev1_abs (x : Int) : ev1 .abs σ (.int x) = some (.int x.natAbs) := rfl
@[simp] theorem zBr (xs : List V) : ev1 .len σ (.lst xs) = some (.int xs.length) := rfl
@[simp] theorem zHL (xs : List V) : ev1 .len σ (.tup xs) = some (.int xs.length) := rfl
theorem zAw {n : Nat} {xs : List V} (h : σ[n]? = some (.list xs)) : ev1 .len σ (.ref n) = some (.int xs.length) := by
  show (match σ[n]? with | some (.list xs) => some (V.int xs.length) | _ => none) = _
  rw [h]
@[simp] theorem ev1_not_bool (b : Bool) : ev1 .not σ (.bool b) = some (.bool !b) := rfl
@[simp] theorem ev1_toList_lst (xs : List V) : ev1 .toList σ (.lst xs) = some (.lst xs) := rfl
@[simp] theorem ev1_toList_tup (xs : List V) : ev1 .toList σ (.tup xs) = some (.lst xs) := rfl
@[simp] theorem zHM (x : Str) : ev1 .len σ (.str x) = some (.int x.length) := rfl
@[simp] theorem instK_ss (x : Str) : instK σ .str (.str x) = some true := rfl
@[simp] theorem instK_si (i : Int) : instK σ .str (.int i) = some false := rfl
@[simp] theorem strOf_str (x : Str) : strOf? (.str x) = some x := rfl
@[simp] theorem truthy_bool (b : Bool) : truthy σ (.bool b) = some b := rfl
@[simp] theorem truthy_int (b : Int) : truthy σ (.int b) = some (b != 0) := rfl
noncomputable def iv (l : List Int) : List V := l.map V.int
@[simp] theorem iv_len (l : List Int) : (iv l).length = l.length := by simp [iv]
noncomputable def gI (l : List Int) (k : Nat) : Int := l.getD k 0
theorem ints_iv (l : List Int) : ints? (iv l) = some l := by
  induction l with
  | nil => rfl
  | cons x l ih =>
    simp only [ints?, iv, List.map_cons, List.mapM_cons] at ih ⊢
    simp [ih, intOf?]
@[simp] theorem zHK (l : List Int) : ev1 .sum σ (.lst (iv l)) = some (.int l.sum) := by
  show (ints? (iv l)).map (fun l => V.int l.sum) = _
  rw [ints_iv]; rfl
theorem zAm {n i : Nat} (h : i < n) : normIndex n (i : Int) = some i := by
  unfold normIndex
  rw [if_pos (Int.natCast_nonneg i), Int.toNat_natCast, if_pos h]
theorem zCt {l : List V} {i : Nat} {v : V} (h : l[i]? = some v) : ev2 .index σ (.lst l) (.int i) = some v := by
  show ((normIndex l.length i).bind fun k => l[k]?) = some v
  rw [zAm (List.getElem?_eq_some_iff.mp h).1]; exact h
theorem zBW {l : List V} {i : Nat} {v : V} (h : l[i]? = some v) : ev2 .index σ (.tup l) (.int i) = some v := by
  show ((normIndex l.length i).bind fun k => l[k]?) = some v
  rw [zAm (List.getElem?_eq_some_iff.mp h).1]; exact h
theorem zAq {l : List V} {i n : Nat} {v : V} (hn : σ[n]? = some (.list l)) (h : l[i]? = some v) : ev2 .index σ (.ref n) (.int i) = some v := by
  show (match σ[n]? with | some (.list xs) => (normIndex xs.length i).bind fun k => xs[k]? | some (.dict es) => (es.find? fun p => p.1 == (i : Int)).map fun p => p.2 | _ => none) = some v
  rw [hn]
  show ((normIndex l.length i).bind fun k => l[k]?) = some v
  rw [zAm (List.getElem?_eq_some_iff.mp h).1]; exact h
theorem iv_get {l : List Int} {i : Nat} (h : i < l.length) : (iv l)[i]? = some (.int (gI l i)) := by simp [iv, gI, h]
theorem index_lst {l : List Int} {i : Nat} (h : i < l.length) : ev2 .index σ (.lst (iv l)) (.int i) = some (.int (gI l i)) := zCt σ (iv_get h)
theorem zAj {n : Int} (h : n.natAbs ≤ LIM) : itemsBy σ .range1 [.int n] = some (.now (rangeL 0 n)) := by
  show (if n.natAbs ≤ LIM then some (Items.now (rangeL 0 n)) else none) = _
  rw [if_pos h]
theorem zGx {xs : List V} : itemsBy σ .val [.tup xs] = some (.now xs) := rfl
theorem zEX {n : Nat} {xs : List V} (h : σ[n]? = some (.list xs)) : itemsBy σ .val [.ref n] = some (.live n) := by
  show refItems n σ[n]? = _
  rw [h]; rfl
@[simp] theorem ev1_isInst (k : Kd) (v : V) : ev1 (.isInst k) σ v = (instK σ k v).map .bool := rfl
@[simp] theorem instK_ii (i : Int) : instK σ .int (.int i) = some true := rfl
@[simp] theorem instK_bi (i : Int) : instK σ .bool (.int i) = some false := rfl
@[simp] theorem instK_tt (xs : List V) : instK σ .tuple (.tup xs) = some true := rfl
@[simp] theorem instK_ll (xs : List V) : instK σ .list (.lst xs) = some true := rfl
theorem setItem_at {n i : Nat} {xs : List V} {v : V} (hn : σ[n]? = some (.list xs)) (h : i < xs.length) : doSetItem σ (.ref n) (.int i) v = .ok () (σ.set n (.list (xs.set i v))) := by
  show setObj σ n i v σ[n]? = _
  rw [hn]
  show (if 0 ≤ (i : Int) ∧ (i : Int).toNat < xs.length then R.ok () (σ.set n (.list (xs.set (i : Int).toNat v))) else .stuck) = _
  rw [if_pos ⟨Int.natCast_nonneg i, by rwa [Int.toNat_natCast]⟩, Int.toNat_natCast]
theorem zAi {n : Nat} {xs : List V} {x : V} (hn : σ[n]? = some (.list xs)) (h : xs.length < LIM) : doAppend σ (.ref n) x = .ok .none (σ.set n (.list (xs ++ [x]))) := by
  show (match σ[n]? with | some (.list xs) => if xs.length < LIM then R.ok V.none (σ.set n (.list (xs ++ [x]))) else .stuck | _ => .stuck) = _
  rw [hn]
  show (if xs.length < LIM then R.ok V.none (σ.set n (.list (xs ++ [x]))) else .stuck) = _
  rw [if_pos h]
@[simp] theorem index_t0 (a : V) (l : List V) : ev2 .index σ (.tup (a :: l)) (.int 0) = some a := zBW σ (i := 0) rfl
@[simp] theorem index_t1 (a b : V) (l : List V) : ev2 .index σ (.tup (a :: b :: l)) (.int 1) = some b := zBW σ (i := 1) rfl
@[simp] theorem index_t2 (a b c : V) (l : List V) : ev2 .index σ (.tup (a :: b :: c :: l)) (.int 2) = some c := zBW σ (i := 2) rfl
end
theorem zAH {T : Nat → Option Fn} {d : Nat} {q : Bool} {f : Nat} {fn : Fn} {args : List V} {σ σ' : Sto} {v : V} (hT : T f = some fn) (hl : args.length = fn.params)
    (h : exL (callFn T d q) (callFn T d true) q fn.body (args ++ List.replicate (fn.slots - fn.params) .undef) σ = .ok (.ret v) σ') : callFn T (d + 1) q f args σ = .ok v σ' := by
  rw [callFn, hT]; simp only [hl, if_true, h]; rfl
theorem zEe {F Fq : Calls} {i : Nat} {k : SK} {src : List CE} {body : List CS} {ρ vs : List V} {σ σ₁ : Sto} {it : Items} {xs : List V} (I : Nat → List V → Sto → Prop)
    (hsrc : evL F false src ρ σ = .ok vs σ₁) (hit : itemsBy σ₁ k vs = some it) (hI : ∀ j ρ σ, I j ρ σ → Gives σ it xs) (h0 : I 0 ρ σ₁)
    (hs : ∀ j x ρ σ, xs[j]? = some x → I j ρ σ → ∃ ρ' σ', exL F Fq false body (ρ.set i x) σ = .ok (.next ρ') σ' ∧ I (j + 1) ρ' σ') :
    ∃ ρ' σ', exS F Fq false (.for i k src body) ρ σ = .ok (.next ρ') σ' ∧ I xs.length ρ' σ' := by
  have e : exS F Fq false (.for i k src body) ρ σ = forItems it (fun x ρ σ => (exL F Fq false body (ρ.set i x) σ)) ρ σ₁ := by
    show ((evL F false src ρ σ).bind fun vs σ => (R.lift σ (itemsBy σ k vs)).bind fun it σ => forItems it (fun x ρ σ => (exL F Fq false body (ρ.set i x) σ)) ρ σ) = _
    simp only [hsrc, R.bind_ok, hit, R.lift_some]
  rw [e]
  exact for_inv (it := it) (f := fun x ρ σ => (exL F Fq false body (ρ.set i x) σ)) I hI h0 (fun j x ρ σ hx h => by
    exact hs j x ρ σ hx h)
theorem zBD {α : Type} (l : List α) : l.filter (fun _ => true) = l := by simp
end Mine
end

/-! # Rel -/
section
set_option autoImplicit false
namespace Mine
open PySem
noncomputable abbrev Loc := Addr × Option Addr
noncomputable def Loc.addrs : Loc → List Addr
  | (a, none) => [a]
  | (a, some d) => [a, d]
noncomputable def addrs (f : List Loc) : List Addr := f.flatMap Loc.addrs
theorem zDG (f g : List Loc) : addrs (f ++ g) = addrs f ++ addrs g := by simp [addrs]
theorem zAE {f g : List Loc} {a : Addr} : a ∈ addrs (f ++ g) ↔ a ∈ addrs f ∨ a ∈ addrs g := by rw [zDG, List.mem_append]
structure Stat where
  prog : Program
  w : World
  hb : Heap
  cl : Cls → Value
  book : Addr
  parts : Value
  hasParts : Bool
  fn : Nat → Addr
  kn : List Cls
noncomputable def bmV : List Value := [.type "ValueError", .type "Exception", .type "BaseException", .type "object"]
inductive ExcCl (S : Stat) (c : Cls) : Prop where
  | mk (Ca : Addr) (bm : List Value) (N : Addr) (nm q : Str) (bs : List Value) (hdct : Bool) (sn : List Str) (sub : List Value) (ab : Bool) (col : Option Bool) (dd : Option Addr) (k0 k1 k2 k3 k5 : Option Value) (mN : Str → Option Value)
      (hcl : S.cl c = .ref Ca) (hC : S.hb.get? Ca = some (excClassObj nm q Ca N bs bm hdct sn sub ab col dd k0 k1 k2 k3 k5 "ValueError.__new__")) (hN : S.hb.Ns N mN) (hni : mN "__init__" = none) (OT : OwnTail S.hb bmV bm)
      (hm : ∀ d ∈ S.kn, (Value.ref Ca :: bm).contains (S.cl d) = c.sub d)
      (TC : TailC S.hb (.ref Ca :: bm))
inductive SeqAt (X : List Addr) (f : List Loc) (I : Addr → Array Value → Nat → Prop) (P : List Value → Prop) (k : Nat) (v : Value) : Prop
  | mk (a : Addr) (vs : Array Value) (n : Nat) (e : v = .ref a) (ha : a ∉ addrs f ∧ a ∉ X) (i : I a vs n) (p : P vs.toList) (hl : k ≤ LIM)
mutual
noncomputable def VR (S : Stat) (X : List Addr) (f : List Loc) (h : Heap) : V → Value → Prop
  | .undef, _ => False
  | .none, v => v = .none
  | .bool b, v => v = .bool b
  | .int i, v => ∃ t, v = .int i t
  | .str x, v => (∃ t, v = .str x t) ∧ x.length ≤ LIM ∧ PyData.strOk x = true
  | .tup xs, v => SeqAt X f (IsT h) (VRs S X f h xs) xs.length v
  | .lst xs, v => SeqAt X f (IsL h) (VRs S X f h xs) xs.length v
  | .ref n, v => ∃ l, f[n]? = some l ∧ v = .ref l.1
  | .exc c, v => ∃ a o, v = .ref a ∧ (a ∉ addrs f ∧ a ∉ X) ∧ h.get? a = some o ∧ o.cls = S.cl c ∧ ExcCl S c
  | .parts, v => S.hasParts = true ∧ v = S.parts
noncomputable def VRs (S : Stat) (X : List Addr) (f : List Loc) (h : Heap) : List V → List Value → Prop
  | [], [] => True
  | x :: xs, v :: vs => VR S X f h x v ∧ VRs S X f h xs vs
  | [], _ :: _ => False
  | _ :: _, [] => False
end
theorem zBE {S : Stat} {X : List Addr} {f : List Loc} {h : Heap} : ∀ {xs : List V} {vs : List Value}, VRs S X f h xs vs → xs.length = vs.length
  | [], [], _ => rfl
  | _ :: _, _ :: _, e => by rw [VRs] at e; simp [zBE e.2]
  | [], _ :: _, e => by rw [VRs] at e; exact e.elim
  | _ :: _, [], e => by rw [VRs] at e; exact e.elim
noncomputable def SameObj (o o' : Obj) : Prop := o' = o ∨ ((∃ es n, o.data = .dict es n) ∧ o'.cls = o.cls ∧ o'.dict = o.dict ∧ o'.data = o.data)
theorem SameObj.refl (o : Obj) : SameObj o o := .inl rfl
theorem SameObj.data {o o' : Obj} (x : SameObj o o') : o'.data = o.data := x.elim (fun e => by rw [e]) fun e => e.2.2.2
theorem SameObj.cls {o o' : Obj} (x : SameObj o o') : o'.cls = o.cls := x.elim (fun e => by rw [e]) fun e => e.2.1
theorem SameObj.dict {o o' : Obj} (x : SameObj o o') : o'.dict = o.dict := x.elim (fun e => by rw [e]) fun e => e.2.2.1
theorem SameObj.exact {o o' : Obj} (x : SameObj o o') (h : ∀ es n, o.data ≠ .dict es n) : o' = o := x.elim id fun e => by obtain ⟨⟨es, n, q⟩, _⟩ := e; exact absurd q (h es n)
theorem SameObj.trans {a b c : Obj} (x : SameObj a b) (y : SameObj b c) : SameObj a c := by
  rcases x with rfl | ⟨x1, x2, x3, x4⟩
  · exact y
  · exact .inr ⟨x1, y.cls.trans x2, y.dict.trans x3, y.data.trans x4⟩
structure Kp (f : List Loc) (Y : List Addr) (s s' : Shared) : Prop where
  rest : s' = { s with heap := s'.heap, toks := s'.toks }
  live : ∀ a o, s.heap.get? a = some o → ∃ o', s'.heap.get? a = some o'
  kept : ∀ a o, s.heap.get? a = some o → a ∉ addrs f → a ∉ Y → ∃ o', s'.heap.get? a = some o' ∧ SameObj o o'
  dicts : ∀ a o es n, s.heap.get? a = some o → o.data = .dict es n → a ∉ addrs f → ∃ o' es' n', s'.heap.get? a = some o' ∧ o'.data = .dict es' n'
noncomputable def Fresh (g : List Loc) (s : Shared) : Prop := ∀ a ∈ addrs g, s.heap.get? a = none
theorem Fresh.nil (s : Shared) : Fresh [] s := fun _ h => nomatch h
theorem Kp.refl (f : List Loc) (Y : List Addr) (s : Shared) : Kp f Y s s :=
  ⟨rfl, fun _ o e => ⟨o, e⟩, fun _ o e _ _ => ⟨o, e, .refl o⟩, fun _ o es n e d _ => ⟨o, es, n, e, d⟩⟩
theorem Kp.mono {f : List Loc} {Y Z : List Addr} {s s' : Shared} (k : Kp f Y s s') (h : ∀ a ∈ Y, a ∈ Z) : Kp f Z s s' :=
  ⟨k.rest, k.live, fun a o e h1 h2 => k.kept a o e h1 fun h3 => h2 (h a h3), k.dicts⟩
theorem zAN {g : List Loc} {s : Shared} (hg : Fresh g s) {a : Addr} {o : Obj} (e : s.heap.get? a = some o) : a ∉ addrs g :=
  fun h => by rw [hg a h] at e; cases e
theorem Kp.trans {f g : List Loc} {Y : List Addr} {s s₁ s₂ : Shared} (k : Kp f Y s s₁) (hg : Fresh g s) (k' : Kp (f ++ g) Y s₁ s₂) : Kp f Y s s₂ where
  rest := by rw [k'.rest, k.rest]
  live a o e := let ⟨o₁, e₁⟩ := k.live a o e; k'.live a o₁ e₁
  kept a o e h1 h2 := by
    obtain ⟨o₁, e₁, q₁⟩ := k.kept a o e h1 h2
    obtain ⟨o₂, e₂, q₂⟩ := k'.kept a o₁ e₁ (fun h => (zAE.mp h).elim h1 (zAN hg e)) h2
    exact ⟨o₂, e₂, q₁.trans q₂⟩
  dicts a o es n e d h1 := by
    obtain ⟨o₁, es₁, n₁, e₁, d₁⟩ := k.dicts a o es n e d h1
    exact k'.dicts a o₁ es₁ n₁ e₁ d₁ (fun h => (zAE.mp h).elim h1 (zAN hg e))
theorem zAS {s s₁ : Shared} (hs : ∀ a o, s.heap.get? a = some o → ∃ o', s₁.heap.get? a = some o') {a : Addr} (h : s₁.heap.get? a = none) : s.heap.get? a = none := by
  cases e : s.heap.get? a with
  | none => rfl
  | some o => obtain ⟨o', e'⟩ := hs a o e; rw [h] at e'; cases e'
theorem Fresh.trans {g g' : List Loc} {s s₁ : Shared} (hg : Fresh g s) (hs : ∀ a o, s.heap.get? a = some o → ∃ o', s₁.heap.get? a = some o') (hg' : Fresh g' s₁) : Fresh (g ++ g') s :=
  fun a h => (zAE.mp h).elim (hg a) fun h => zAS hs (hg' a h)
mutual
theorem VR.keep {S : Stat} {X X' : List Addr} {f f' : List Loc} {h h' : Heap}
    (kf : ∀ (i : Nat) (l : Loc), f[i]? = some l → f'[i]? = some l)
    (kh : ∀ a o, h.get? a = some o → a ∉ addrs f → a ∉ X → (a ∉ addrs f' ∧ a ∉ X') ∧ ∃ o', h'.get? a = some o' ∧ SameObj o o') :
    ∀ (x : V) (v : Value), VR S X f h x v → VR S X' f' h' x v
  | .undef, _, e => by rw [VR] at e; exact e.elim
  | .none, _, e => by rw [VR] at e ⊢; exact e
  | .bool _, _, e => by rw [VR] at e ⊢; exact e
  | .int _, _, e => by rw [VR] at e ⊢; exact e
  | .str _, _, e => by rw [VR] at e ⊢; exact e
  | .ref n, _, e => by
    rw [VR] at e ⊢
    obtain ⟨l, e1, e2⟩ := e
    exact ⟨l, kf _ _ e1, e2⟩
  | .exc c, _, e => by
    rw [VR] at e ⊢
    obtain ⟨a, o, e1, e2, e3, e4, e5⟩ := e
    obtain ⟨q1, o', q2, q3⟩ := kh a o e3 e2.1 e2.2
    exact ⟨a, o', e1, q1, q2, q3.cls.trans e4, e5⟩
  | .parts, _, e => by rw [VR] at e ⊢; exact e
  | .tup xs, _, e => by
    rw [VR] at e ⊢
    obtain ⟨a, vs, n, e1, e2, e3, e7, e8⟩ := e
    obtain ⟨q1, o', q2, q3⟩ := kh a _ e3 e2.1 e2.2
    exact ⟨a, vs, n, e1, q1, q2.trans (congrArg some (q3.exact fun _ _ q => by cases q)), VRs.keep kf kh xs vs.toList e7, e8⟩
  | .lst xs, _, e => by
    rw [VR] at e ⊢
    obtain ⟨a, vs, n, e1, e2, e3, e7, e8⟩ := e
    obtain ⟨q1, o', q2, q3⟩ := kh a _ e3 e2.1 e2.2
    exact ⟨a, vs, n, e1, q1, q2.trans (congrArg some (q3.exact fun _ _ q => by cases q)), VRs.keep kf kh xs vs.toList e7, e8⟩
theorem VRs.keep {S : Stat} {X X' : List Addr} {f f' : List Loc} {h h' : Heap}
    (kf : ∀ (i : Nat) (l : Loc), f[i]? = some l → f'[i]? = some l)
    (kh : ∀ a o, h.get? a = some o → a ∉ addrs f → a ∉ X → (a ∉ addrs f' ∧ a ∉ X') ∧ ∃ o', h'.get? a = some o' ∧ SameObj o o') :
    ∀ (xs : List V) (vs : List Value), VRs S X f h xs vs → VRs S X' f' h' xs vs
  | [], [], e => by rw [VRs] at e ⊢; exact e
  | x :: xs, v :: vs, e => by
    rw [VRs] at e ⊢
    exact ⟨VR.keep kf kh x v e.1, VRs.keep kf kh xs vs e.2⟩
  | [], _ :: _, e => by rw [VRs] at e; exact e.elim
  | _ :: _, [], e => by rw [VRs] at e; exact e.elim
end
theorem VR.keepK {S : Stat} {X : List Addr} {f g : List Loc} {Y : List Addr} {s s' : Shared} (k : Kp f Y s s') (hg : Fresh g s) (hY : ∀ a ∈ Y, a ∈ X)
    {x : V} {v : Value} (e : VR S X f s.heap x v) : VR S X (f ++ g) s'.heap x v :=
  VR.keep (fun _ _ e => List.getElem?_append_left (List.getElem?_eq_some_iff.mp e).1 ▸ e)
    (fun a o ho h1 h2 => ⟨⟨fun h => (zAE.mp h).elim h1 (zAN hg ho), h2⟩, k.kept a o ho h1 fun h => h2 (hY a h)⟩) x v e
theorem VRs.keepK {S : Stat} {X : List Addr} {f g : List Loc} {Y : List Addr} {s s' : Shared} (k : Kp f Y s s') (hg : Fresh g s) (hY : ∀ a ∈ Y, a ∈ X)
    {x : List V} {v : List Value} (e : VRs S X f s.heap x v) : VRs S X (f ++ g) s'.heap x v :=
  VRs.keep (fun _ _ e => List.getElem?_append_left (List.getElem?_eq_some_iff.mp e).1 ▸ e)
    (fun a o ho h1 h2 => ⟨⟨fun h => (zAE.mp h).elim h1 (zAN hg ho), h2⟩, k.kept a o ho h1 fun h => h2 (hY a h)⟩) x v e
theorem VR.less {S : Stat} {X X' : List Addr} {f : List Loc} {h : Heap} (hX : ∀ a ∈ X', a ∈ X) {x : V} {v : Value} (e : VR S X f h x v) : VR S X' f h x v :=
  VR.keep (fun _ _ e => e) (fun _ o ho h1 h2 => ⟨⟨h1, fun h => h2 (hX _ h)⟩, o, ho, .refl o⟩) x v e
theorem VRs.less {S : Stat} {X X' : List Addr} {f : List Loc} {h : Heap} (hX : ∀ a ∈ X', a ∈ X) {x : List V} {v : List Value} (e : VRs S X f h x v) : VRs S X' f h x v :=
  VRs.keep (fun _ _ e => e) (fun _ o ho h1 h2 => ⟨⟨h1, fun h => h2 (hX _ h)⟩, o, ho, .refl o⟩) x v e
theorem VR.more {S : Stat} {X X' : List Addr} {f : List Loc} {h : Heap} (hX : ∀ a ∈ X', a ∈ X ∨ h.get? a = none) {x : V} {v : Value} (e : VR S X f h x v) : VR S X' f h x v :=
  VR.keep (fun _ _ e => e) (fun a o ho h1 h2 => ⟨⟨h1, fun h => (hX _ h).elim h2 fun q => by rw [q] at ho; cases ho⟩, o, ho, .refl o⟩) x v e
theorem VRs.more {S : Stat} {X X' : List Addr} {f : List Loc} {h : Heap} (hX : ∀ a ∈ X', a ∈ X ∨ h.get? a = none) {x : List V} {v : List Value} (e : VRs S X f h x v) : VRs S X' f h x v :=
  VRs.keep (fun _ _ e => e) (fun a o ho h1 h2 => ⟨⟨h1, fun h => (hX _ h).elim h2 fun q => by rw [q] at ho; cases ho⟩, o, ho, .refl o⟩) x v e
noncomputable def attrName (k : Nat) : Str := if k = 0 then "entries" else "history"
noncomputable def OR (S : Stat) (X : List Addr) (f : List Loc) (h : Heap) : Loc → O → Prop
  | (a, none), .list xs => ∃ vs n, IsL h a vs n ∧ VRs S X f h xs vs.toList ∧ xs.length ≤ LIM
  | (a, none), .dict es => ∃ kvs, h.DictOf (intKind S.prog S.w) a kvs ∧ kvs.map (·.1) = es.map (·.1) ∧ VRs S X f h (es.map (·.2)) (kvs.map (·.2)) ∧ es.length ≤ LIM
  | (a, some d), .inst as => ∃ ob mA, h.get? a = some ob ∧ (ob.cls = .ref S.book ∧ ob.dict = some d ∧ (∀ c, ob.data ≠ .cls c) ∧ d ≠ a) ∧ h.Ns1 d mA ∧ (∀ k x, as.lookup k = some x → ∃ v, mA (attrName k) = some v ∧ VR S X f h x v) ∧ (∀ x v, mA x = some v → x = attrName 0 ∨ x = attrName 1) ∧ ∀ k, k ∈ as.map (·.1) → k < 2
  | _, _ => False
theorem dictOf_at {prog : Program} {w : World} {h h' : Heap} {a : Addr} {kvs : List (Int × Value)} (e : h'.get? a = h.get? a) (x : h.DictOf (intKind prog w) a kvs) : h'.DictOf (intKind prog w) a kvs := by
  obtain ⟨o, es, ep, ho, r⟩ := x
  exact ⟨o, es, ep, e.trans ho, r⟩
theorem OR.keep {S : Stat} {X X' : List Addr} {f f' : List Loc} {h h' : Heap} (k : ∀ x v, VR S X f h x v → VR S X' f' h' x v) (ks : ∀ x v, VRs S X f h x v → VRs S X' f' h' x v) {l : Loc} {o : O}
    (hl : ∀ a ∈ l.addrs, h'.get? a = h.get? a) (e : OR S X f h l o) : OR S X' f' h' l o := by
  obtain ⟨a, d⟩ := l
  cases d with
  | none =>
    have ha := hl a (List.mem_singleton.mpr rfl)
    cases o with
    | list xs =>
      obtain ⟨vs, n, e1, e5, e6⟩ := e
      exact ⟨vs, n, ha.trans e1, ks _ _ e5, e6⟩
    | dict es =>
      obtain ⟨kvs, e1, e2, e3, e4⟩ := e
      exact ⟨kvs, dictOf_at ha e1, e2, ks _ _ e3, e4⟩
    | inst as => exact e.elim
  | some d =>
    have ha := hl a (List.mem_cons_self)
    have hd := hl d (List.mem_cons_of_mem _ (List.mem_singleton.mpr rfl))
    cases o with
    | list xs => exact e.elim
    | dict es => exact e.elim
    | inst as =>
      obtain ⟨ob, mA, e1, e0, ⟨o, es, ep, e2, r⟩, e3, e4⟩ := e
      exact ⟨ob, mA, ha.trans e1, e0, ⟨o, es, ep, hd.trans e2, r⟩, fun i x q => let ⟨v, q1, q2⟩ := e3 i x q; ⟨v, q1, k _ _ q2⟩, e4⟩
structure Lk (S : Stat) (X : List Addr) (f : List Loc) (σ : Sto) (h : Heap) : Prop where
  base : ∀ b o, S.hb.get? b = some o → h.get? b = some o
  len : f.length = σ.length
  nodup : (addrs f).Nodup
  fresh : ∀ a ∈ addrs f, S.hb.get? a = none
  hid : ∀ a ∈ X, S.hb.get? a = none ∧ a ∉ addrs f ∧ ∃ o, h.get? a = some o
  obj : ∀ (i : Nat) (l : Loc) (o : O), f[i]? = some l → σ[i]? = some o → OR S X f h l o
theorem OR.live {S : Stat} {X : List Addr} {f : List Loc} {h : Heap} {l : Loc} {o : O} (e : OR S X f h l o) : ∀ a ∈ l.addrs, ∃ ob, h.get? a = some ob := by
  obtain ⟨a, d⟩ := l
  intro b hb
  cases d with
  | none =>
    obtain rfl := List.mem_singleton.mp hb
    cases o with
    | list xs => obtain ⟨vs, n, e1, _⟩ := e; exact ⟨_, e1⟩
    | dict es => obtain ⟨kvs, ⟨o, _, _, e1, _⟩, _⟩ := e; exact ⟨o, e1⟩
    | inst as => exact e.elim
  | some d =>
    cases o with
    | list xs => exact e.elim
    | dict es => exact e.elim
    | inst as =>
      obtain ⟨ob, mA, e1, e0, ⟨o, es, ep, e2, r⟩, _⟩ := e
      rcases List.mem_cons.mp hb with rfl | hb
      · exact ⟨_, e1⟩
      · obtain rfl := List.mem_singleton.mp hb; exact ⟨_, e2⟩
theorem mem_addrs {f : List Loc} {a : Addr} (h : a ∈ addrs f) : ∃ (i : Nat) (l : Loc), f[i]? = some l ∧ a ∈ l.addrs := by
  obtain ⟨l, hl, ha⟩ := List.mem_flatMap.mp h
  obtain ⟨i, hi⟩ := List.getElem?_of_mem hl
  exact ⟨i, l, hi, ha⟩
theorem zAX {f : List Loc} {i : Nat} {l : Loc} {a : Addr} (h : f[i]? = some l) (ha : a ∈ l.addrs) : a ∈ addrs f :=
  List.mem_flatMap.mpr ⟨l, List.mem_of_getElem? h, ha⟩
theorem Lk.live {S : Stat} {X : List Addr} {f : List Loc} {σ : Sto} {h : Heap} (L : Lk S X f σ h) {a : Addr} (ha : a ∈ addrs f) : ∃ ob, h.get? a = some ob := by
  obtain ⟨i, l, hi, hl⟩ := mem_addrs ha
  have hlt : i < σ.length := L.len ▸ (List.getElem?_eq_some_iff.mp hi).1
  exact (L.obj i l _ hi (List.getElem?_eq_getElem hlt)).live a hl
inductive ExcR (S : Stat) (X : List Addr) (f : List Loc) (σ : Sto) (h h₀ : Heap) (ea : Addr) (k : Cls) : Prop where
  | mk (e1 : h₀.get? ea = none) (ec : ExcCl S k) (hs : List Addr) (oe : Obj) (vs : Array Value) (L : Lk S (hs ++ X) f σ h) (e4 : h.get? ea = some oe) (e5 : oe.cls = S.cl k) (e6 : oe.data = .fields vs) (e8 : (hs = [ea] ∧ vs[1]? = some .none) ∨
      ∃ T oT ts, hs = [ea, T] ∧ h₀.get? T = none ∧ T ≠ ea ∧ vs[1]? = some (.ref T) ∧ h.get? T = some oT ∧ oT.data = .fields ts ∧ 3 < ts.size)
theorem ExcR.back {S : Stat} {X : List Addr} {f : List Loc} {σ : Sto} {h h₀ h₁ : Heap} {ea : Addr} {k : Cls} (e : ExcR S X f σ h h₁ ea k) (hl : ∀ a, h₁.get? a = none → h₀.get? a = none) : ExcR S X f σ h h₀ ea k := by
  obtain ⟨e1, ec, hs, oe, vs, L, e4, e5, e6, e8⟩ := e
  refine ⟨hl _ e1, ec, hs, oe, vs, L, e4, e5, e6, e8.imp id ?_⟩
  rintro ⟨T, oT, ts, t0, t1, t2⟩
  exact ⟨T, oT, ts, t0, hl _ t1, t2⟩
section
variable {α β γ δ : Type}
inductive QS (S : Stat) (X Y : List Addr) (f : List Loc) (P : α → β → List Loc → Shared → Prop) (s : Shared) (r : R β) (a : α) (s' : Shared) : Prop where
  | mk (b : β) (σ' : Sto) (g : List Loc) (e : r = .ok b σ') (hg : Fresh g s) (k : Kp f Y s s') (L : Lk S X (f ++ g) σ' s'.heap) (p : P a b (f ++ g) s')
inductive ES (S : Stat) (X Y : List Addr) (f : List Loc) (tr : Bool) (s : Shared) (r : R β) (e : Value) (s' : Shared) : Prop where
  | mk (k : Cls) (σ' : Sto) (g : List Loc) (ea : Addr) (e1 : e = .ref ea) (e2 : r = .exc k σ') (hg : Fresh g s) (kp : Kp f Y s s') (L : Lk S X (f ++ g) σ' s'.heap) (x : ExcR S X (f ++ g) σ' s'.heap s.heap ea k)
noncomputable def Sim (S : Stat) (A : Around) (X Y : List Addr) (f : List Loc) (P : α → β → List Loc → Shared → Prop) (t : Sem α) (r : R β) (s : Shared) : Prop :=
  r ≠ .stuck → wpAny (model S.prog S.w) A t (QS S X Y f P s r) (ES S X Y f false s r) s
variable {S : Stat} {A : Around} {X Y : List Addr} {f : List Loc} {P : α → β → List Loc → Shared → Prop} {P' : γ → δ → List Loc → Shared → Prop}
theorem QS.lift {s s₁ : Shared} {b : β} {σ' : Sto} {g : List Loc} {rk : β → Sto → R δ} {a : γ} {s' : Shared} (hg : Fresh g s) (k : Kp f Y s s₁)
    (q : QS S X Y (f ++ g) P' s₁ (rk b σ') a s') : QS S X Y f P' s ((R.ok b σ').bind rk) a s' := by
  obtain ⟨b', σ'', g', e, hg', k', L, p⟩ := q
  rw [List.append_assoc] at L p
  exact ⟨b', σ'', g ++ g', e, hg.trans k.live hg', k.trans hg k', L, p⟩
theorem ES.lift {s s₁ : Shared} {b : β} {σ' : Sto} {g : List Loc} {tr : Bool} {rk : β → Sto → R δ} {e : Value} {s' : Shared} (hg : Fresh g s) (k : Kp f Y s s₁)
    (q : ES S X Y (f ++ g) tr s₁ (rk b σ') e s') : ES S X Y f tr s ((R.ok b σ').bind rk) e s' := by
  obtain ⟨c, σ'', g', ea, e1, e2, hg', k', L, x⟩ := q
  rw [List.append_assoc] at L x
  exact ⟨c, σ'', g ++ g', ea, e1, e2, hg.trans k.live hg', k.trans hg k', L, x.back fun a h => zAS k.live h⟩
theorem Sim.seq {t : Sem α} {r : R β} {rk : β → Sto → R δ} {s : Shared} {W : α → Shared → Prop} (h : Sim S A X Y f P t r s) (hne : r.bind rk ≠ .stuck)
    (hk : ∀ a b σ' g s', rk b σ' ≠ .stuck → Fresh g s → Kp f Y s s' → Lk S X (f ++ g) σ' s'.heap → P a b (f ++ g) s' → (∀ c s'', QS S X Y (f ++ g) P' s' (rk b σ') c s'' → QS S X Y f P' s (r.bind rk) c s'') →
      (∀ e s'', ES S X Y (f ++ g) false s' (rk b σ') e s'' → ES S X Y f false s (r.bind rk) e s'') → W a s') :
    wpAny (model S.prog S.w) A t W (ES S X Y f false s (r.bind rk)) s := by
  have hr : r ≠ .stuck := fun e => hne (by rw [e]; rfl)
  refine wpAny_mono (h hr) (fun a s' q => ?_) fun e s' q => ?_
  · obtain ⟨b, σ', g, rfl, hg, k, L, p⟩ := q
    exact hk a b σ' g s' hne hg k L p (fun c s'' q => q.lift hg k) (fun e s'' q => q.lift hg k)
  · obtain ⟨c, σ', g, ea, e1, rfl, hg, k, L, x⟩ := q
    exact ⟨c, σ', g, ea, e1, rfl, hg, k, L, x⟩
theorem Sim.bind {t : Sem α} {m : α → Sem γ} {r : R β} {rk : β → Sto → R δ} {s : Shared} (h : Sim S A X Y f P t r s)
    (hk : ∀ a b σ' g s', Fresh g s → Kp f Y s s' → Lk S X (f ++ g) σ' s'.heap → P a b (f ++ g) s' → Sim S A X Y (f ++ g) P' (m a) (rk b σ') s') :
    Sim S A X Y f P' (t >>= m) (r.bind rk) s := fun hne =>
  wpAny_bind (Sim.seq (P' := P') h hne fun a b σ' g s' hn hg k L p l1 l2 => wpAny_mono (hk a b σ' g s' hg k L p hn) l1 l2)
theorem Sim.stuck {t : Sem α} {s : Shared} : Sim S A X Y f P t (.stuck : R β) s := fun h => (h rfl).elim
theorem QS.here {s : Shared} {σ : Sto} {a : α} {b : β} (L : Lk S X f σ s.heap) (p : P a b f s) : QS S X Y f P s (.ok b σ) a s :=
  ⟨b, σ, [], rfl, .nil s, .refl f Y s, by rwa [List.append_nil], by rwa [List.append_nil]⟩
end
end Mine
end

/-! # Ops -/
section
set_option autoImplicit false
namespace Mine
open PySem PyProof.Rows
structure Ext (s s' : Shared) : Prop where
  rest : s' = { s with heap := s'.heap, toks := s'.toks }
  keep : ∀ b o, s.heap.get? b = some o → s'.heap.get? b = some o
theorem Ext.refl (s : Shared) : Ext s s := ⟨rfl, fun _ _ e => e⟩
theorem Ext.toks (s : Shared) (t : Nat) : Ext s { s with toks := t } := ⟨rfl, fun _ _ e => e⟩
theorem Ext.heap {s : Shared} {h : Heap} {t : Nat} (k : ∀ b o, s.heap.get? b = some o → h.get? b = some o) : Ext s { s with heap := h, toks := t } := ⟨rfl, k⟩
theorem Ext.push (s : Shared) (o : Obj) : Ext s { s with heap := s.heap.push o } := ⟨rfl, fun _ _ e => Heap.get?_push_of_some _ e⟩
theorem Ext.trans {a b c : Shared} (x : Ext a b) (y : Ext b c) : Ext a c := ⟨by rw [y.rest, x.rest], fun d o e => y.keep d o (x.keep d o e)⟩
theorem Ext.kp {s s' : Shared} (e : Ext s s') (f : List Loc) (Y : List Addr) : Kp f Y s s' :=
  ⟨e.rest, fun a o h => ⟨o, e.keep a o h⟩, fun a o h _ _ => ⟨o, e.keep a o h, .refl o⟩, fun a o es n h d _ => ⟨o, es, n, e.keep a o h, d⟩⟩
section
variable {S : Stat} {X Y : List Addr} {f : List Loc} {σ : Sto} {s s' : Shared}
theorem Ext.vr (e : Ext s s') {x : V} {v : Value} (h : VR S X f s.heap x v) : VR S X f s'.heap x v :=
  VR.keep (fun _ _ e => e) (fun a o h h1 h2 => ⟨⟨h1, h2⟩, o, e.keep a o h, .refl o⟩) x v h
theorem Ext.vrs (e : Ext s s') {x : List V} {v : List Value} (h : VRs S X f s.heap x v) : VRs S X f s'.heap x v :=
  VRs.keep (fun _ _ e => e) (fun a o h h1 h2 => ⟨⟨h1, h2⟩, o, e.keep a o h, .refl o⟩) x v h
theorem Ext.lk (e : Ext s s') (L : Lk S X f σ s.heap) : Lk S X f σ s'.heap where
  base b o h := e.keep b o (L.base b o h)
  len := L.len
  nodup := L.nodup
  fresh := L.fresh
  hid a ha := ⟨(L.hid a ha).1, (L.hid a ha).2.1, let ⟨o, q⟩ := (L.hid a ha).2.2; ⟨o, e.keep a o q⟩⟩
  obj i l o hi ho := (L.obj i l o hi ho).keep (fun _ _ => e.vr) (fun _ _ => e.vrs) fun a ha => by
    obtain ⟨ob, h⟩ := L.live (zAX hi ha)
    rw [h]; exact e.keep a ob h
noncomputable def PV (S : Stat) (X : List Addr) (v : Value) (x : V) (f : List Loc) (s : Shared) : Prop := VR S X f s.heap x v
theorem QS.leaf {x : V} {v : Value} (L : Lk S X f σ s.heap) (e : Ext s s') (h : VR S X f s'.heap x v) : QS S X Y f (PV S X) s (.ok x σ) v s' :=
  ⟨x, σ, [], rfl, .nil s, e.kp f Y, by rw [List.append_nil]; exact e.lk L, by rw [List.append_nil]; exact h⟩
theorem Lk.new (L : Lk S X f σ s.heap) {a : Addr} (h : s.heap.get? a = none) : a ∉ addrs f ∧ a ∉ X :=
  ⟨fun q => (by obtain ⟨o, e⟩ := L.live q; rw [h] at e; cases e), fun q => (by obtain ⟨o, e⟩ := (L.hid a q).2.2; rw [h] at e; cases e)⟩
theorem zAd (h : Heap) : h.get? h.objs.size = none := Heap.get?_none_of_le (Nat.le_refl _)
inductive NewL (S : Stat) (X : List Addr) (f : List Loc) (s s' : Shared) (xs : List V) (v : Value) : Prop
  | mk (a : Addr) (vs : Array Value) (n : Nat) (e : v = .ref a) (hn : s.heap.get? a = none) (i : IsL s'.heap a vs n) (p : VRs S X f s.heap xs vs.toList) (hl : xs.length ≤ LIM)
theorem NewL.vr {xs : List V} {v : Value} (L : Lk S X f σ s.heap) (e : Ext s s') (h : NewL S X f s s' xs v) : VR S X f s'.heap (.lst xs) v := by
  obtain ⟨a, vs, n, e1, e2, e3, e4, e5⟩ := h
  rw [VR]; exact ⟨a, vs, n, e1, L.new e2, e3, e.vrs e4, e5⟩
end
section
variable {S : Stat} {X : List Addr} {f : List Loc} {σ : Sto} {h : Heap}
inductive ListAt (S : Stat) (X : List Addr) (f : List Loc) (h : Heap) (xs : List V) (v : Value) : Prop
  | mk (a : Addr) (vs : Array Value) (n : Nat) (e : v = .ref a) (i : IsL h a vs n) (p : VRs S X f h xs vs.toList) (hl : xs.length ≤ LIM)
theorem zAV (L : Lk S X f σ h) {x : V} {v : Value} {xs : List V} (e : listOf? σ x = some xs) (r : VR S X f h x v) : ListAt S X f h xs v := by
  cases x with
  | lst ys =>
    cases e
    rw [VR] at r
    obtain ⟨a, vs, n, e1, _, e3, e4, e5⟩ := r
    exact ⟨a, vs, n, e1, e3, e4, e5⟩
  | ref k =>
    rw [VR] at r
    obtain ⟨l, hl, rfl⟩ := r
    cases ho : σ[k]? with
    | none => simp only [listOf?, ho, listR] at e; cases e
    | some o =>
      simp only [listOf?, ho] at e
      cases o <;> cases e
      have := L.obj k l _ hl ho
      obtain ⟨a, d⟩ := l
      cases d with
      | none => obtain ⟨vs, n, e1, e2, e3⟩ := this; exact ⟨a, vs, n, rfl, e1, e2, e3⟩
      | some d => exact this.elim
  | _ => first | exact zAA e | exact ff_tt e | cases e
inductive ItemsAt (S : Stat) (X : List Addr) (f : List Loc) (h : Heap) (xs : List V) (v : Value) : Prop
  | mk (a : Addr) (vs : Array Value) (n : Nat) (e : v = .ref a) (i : IsL h a vs n ∨ IsT h a vs n) (p : VRs S X f h xs vs.toList) (hl : xs.length ≤ LIM)
theorem zCl (L : Lk S X f σ h) {x : V} {v : Value} {xs : List V} (e : itemsOf σ x = some xs) (r : VR S X f h x v) :
    ItemsAt S X f h xs v := by
  cases x with
  | tup ys =>
    cases e
    rw [VR] at r
    obtain ⟨a, vs, n, e1, _, e3, e4, e5⟩ := r
    exact ⟨a, vs, n, e1, .inr e3, e4, e5⟩
  | lst ys =>
    obtain ⟨a, vs, n, e1, e2, e3, e4⟩ := zAV L (x := .lst ys) (xs := xs) e r
    exact ⟨a, vs, n, e1, .inl e2, e3, e4⟩
  | ref k =>
    obtain ⟨a, vs, n, e1, e2, e3, e4⟩ := zAV L (x := .ref k) (xs := xs) e r
    exact ⟨a, vs, n, e1, .inl e2, e3, e4⟩
  | _ => first | exact zAA e | exact ff_tt e | cases e
theorem zBu : ∀ {xs : List V} {vs : List Value}, VRs S X f h xs vs → ∀ {i : Nat} {x : V}, xs[i]? = some x → ∃ v, vs[i]? = some v ∧ VR S X f h x v
  | x :: xs, v :: vs, r, 0, y, e => by rw [VRs] at r; simp at e; subst e; exact ⟨v, by simp, r.1⟩
  | x :: xs, v :: vs, r, i + 1, y, e => by rw [VRs] at r; simp at e; obtain ⟨w, h1, h2⟩ := zBu r.2 e; exact ⟨w, by simpa using h1, h2⟩
  | [], _, _, _, _, e => by simp at e
  | _ :: _, [], r, _, _, _ => by rw [VRs] at r; exact r.elim
theorem zAt : ∀ {xs ys : List V} {vs ws : List Value}, VRs S X f h xs vs → VRs S X f h ys ws → VRs S X f h (xs ++ ys) (vs ++ ws)
  | [], _, [], _, _, b => b
  | x :: xs, ys, v :: vs, ws, a, b => by rw [VRs] at a; show VRs S X f h (x :: (xs ++ ys)) (v :: (vs ++ ws)); rw [VRs]; exact ⟨a.1, zAt a.2 b⟩
  | [], _, _ :: _, _, a, _ => by rw [VRs] at a; exact a.elim
  | _ :: _, _, [], _, a, _ => by rw [VRs] at a; exact a.elim
theorem zFS : ∀ {xs : List V} {vs : List Value}, VRs S X f h xs vs → ∀ n, VRs S X f h (xs.take n) (vs.take n)
  | [], [], _, n => by simp [VRs]
  | x :: xs, v :: vs, r, 0 => by simp [VRs]
  | x :: xs, v :: vs, r, n + 1 => by rw [VRs] at r; simp only [List.take_succ_cons]; rw [VRs]; exact ⟨r.1, zFS r.2 n⟩
  | [], _ :: _, a, _ => by rw [VRs] at a; exact a.elim
  | _ :: _, [], a, _ => by rw [VRs] at a; exact a.elim
theorem zFT : ∀ {xs : List V} {vs : List Value}, VRs S X f h xs vs → ∀ n, VRs S X f h (xs.drop n) (vs.drop n)
  | [], [], _, n => by simp [VRs]
  | x :: xs, v :: vs, r, 0 => by simpa using r
  | x :: xs, v :: vs, r, n + 1 => by rw [VRs] at r; simp only [List.drop_succ_cons]; exact zFT r.2 n
  | [], _ :: _, a, _ => by rw [VRs] at a; exact a.elim
  | _ :: _, [], a, _ => by rw [VRs] at a; exact a.elim
theorem VRs_set : ∀ {xs : List V} {vs : List Value}, VRs S X f h xs vs → ∀ {i : Nat} {x : V} {v : Value}, VR S X f h x v → VRs S X f h (xs.set i x) (vs.set i v)
  | [], [], _, n, _, _, _ => by simp [VRs]
  | x :: xs, v :: vs, r, 0, _, _, q => by rw [VRs] at r; simp only [List.set_cons_zero]; rw [VRs]; exact ⟨q, r.2⟩
  | x :: xs, v :: vs, r, n + 1, _, _, q => by rw [VRs] at r; simp only [List.set_cons_succ]; rw [VRs]; exact ⟨r.1, VRs_set r.2 q⟩
  | [], _ :: _, a, _, _, _, _ => by rw [VRs] at a; exact a.elim
  | _ :: _, [], a, _, _, _, _ => by rw [VRs] at a; exact a.elim
theorem ints_at : ∀ {xs : List V} {vs : List Value} {l : List Int}, ints? xs = some l → VRs S X f h xs vs → ∃ ys : List (Int × Tok), vs = ys.map (fun p => .int p.1 p.2) ∧ ys.map (·.1) = l
  | [], [], l, e, _ => by simp [ints?] at e; subst e; exact ⟨[], rfl, rfl⟩
  | x :: xs, v :: vs, l, e, r => by
    rw [VRs] at r
    simp only [ints?, List.mapM_cons] at e
    cases x with
    | int i =>
      obtain ⟨t, rfl⟩ := (by simpa [VR] using r.1 : ∃ t, v = .int i t)
      simp only [intOf?] at e
      cases hl : xs.mapM intOf? with
      | none => first | (rw [hl] at e; exact zAA e) | simp [hl] at e
      | some l' =>
        simp [hl] at e
        obtain ⟨ys, e1, e2⟩ := ints_at (l := l') hl r.2
        subst e
        exact ⟨(i, t) :: ys, by simp [e1], by simp [e2]⟩
    | _ => simp [intOf?] at e
  | [], _ :: _, _, _, a => by rw [VRs] at a; exact a.elim
  | _ :: _, [], _, _, a => by rw [VRs] at a; exact a.elim
theorem bools_at : ∀ {xs : List V} {vs : List Value} {l : List Bool}, bools? xs = some l → VRs S X f h xs vs → vs = l.map .bool
  | [], [], l, e, _ => by simp [bools?] at e; subst e; rfl
  | x :: xs, v :: vs, l, e, r => by
    rw [VRs] at r
    simp only [bools?, List.mapM_cons] at e
    cases x with
    | bool i =>
      obtain rfl := (by simpa [VR] using r.1 : v = .bool i)
      simp only [boolOf?] at e
      cases hl : xs.mapM boolOf? with
      | none => first | (rw [hl] at e; exact zAA e) | simp [hl] at e
      | some l' =>
        simp [hl] at e
        subst e
        rw [List.map_cons, bools_at (l := l') hl r.2]
    | _ => simp [boolOf?] at e
  | [], _ :: _, _, _, a => by rw [VRs] at a; exact a.elim
  | _ :: _, [], _, _, a => by rw [VRs] at a; exact a.elim
theorem strs_at : ∀ {xs : List V} {vs : List Value} {l : List Str}, strs? xs = some l → VRs S X f h xs vs → ∃ ys : List (Str × Tok), vs = ys.map (fun p => .str p.1 p.2) ∧ ys.map (·.1) = l ∧ ∀ x ∈ l, x.length ≤ LIM ∧ PyData.strOk x = true
  | [], [], l, e, _ => by simp [strs?] at e; subst e; exact ⟨[], rfl, rfl, fun _ h => nomatch h⟩
  | x :: xs, v :: vs, l, e, r => by
    rw [VRs] at r
    simp only [strs?, List.mapM_cons] at e
    cases x with
    | str i =>
      obtain ⟨⟨t, rfl⟩, q⟩ := (by simpa [VR] using r.1 : (∃ t, v = .str i t) ∧ i.length ≤ LIM ∧ PyData.strOk i = true)
      simp only [strOf?] at e
      cases hl : xs.mapM strOf? with
      | none => first | (rw [hl] at e; exact zAA e) | simp [hl] at e
      | some l' =>
        simp [hl] at e
        obtain ⟨ys, e1, e2, e3⟩ := strs_at (l := l') hl r.2
        subst e
        exact ⟨(i, t) :: ys, by simp [e1], by simp [e2], fun x hx => (List.mem_cons.mp hx).elim (fun e => e ▸ q) (e3 x)⟩
    | _ => simp [strOf?] at e
  | [], _ :: _, _, _, a => by rw [VRs] at a; exact a.elim
  | _ :: _, [], _, _, a => by rw [VRs] at a; exact a.elim
end
end Mine
end

/-! # Ops2 -/
section
set_option autoImplicit false
namespace Mine
open PySem PyProof.Rows
theorem zAO : LIM ≤ sizeLine := by decide
theorem zAo {n : Nat} (h : n ≤ LIM) : (n : Int) < 2 ^ 63 := by have : LIM = 1048576 := rfl; omega
theorem app_arr (vs ws : Array Value) : (vs.toList ++ ws.toList).toArray = vs ++ ws := by apply Array.toList_inj.mp; simp
theorem zEy {a : Int} (h : smallFactor a = true) : Builtin.Int.intBits a ≤ 64 := by
  have h' : a.natAbs < 2 ^ 64 := of_decide_eq_true h
  unfold Builtin.Int.intBits
  split
  · omega
  · rename_i hz
    have hne : a.natAbs ≠ 0 := by intro e; apply hz; simp; omega
    have := (Nat.log2_lt hne).mpr h'
    omega
section
variable {S : Stat} {A : Around} {X : List Addr} {f : List Loc} {σ : Sto} {s : Shared} {E : Value → Shared → Prop}
noncomputable def PE (S : Stat) (X : List Addr) (f : List Loc) (s : Shared) (x : V) (v : Value) (s' : Shared) : Prop := Ext s s' ∧ VR S X f s'.heap x v ∧ ∀ xs, x = .lst xs → NewL S X f s s' xs v
theorem PE.int {i : Int} {t tk : Nat} : PE S X f s (.int i) (.int i t) { s with toks := tk } := ⟨.toks s tk, by rw [VR]; exact ⟨t, rfl⟩, fun _ e => by cases e⟩
theorem PE.bool {b : Bool} {tk : Nat} : PE S X f s (.bool b) (.bool b) { s with toks := tk } := ⟨.toks s tk, by rw [VR], fun _ e => by cases e⟩
theorem PE.bool0 {b : Bool} : PE S X f s (.bool b) (.bool b) s := ⟨.refl s, by rw [VR], fun _ e => by cases e⟩
theorem PE.str {x : Str} {t tk : Nat} (h1 : x.length ≤ LIM) (h2 : PyData.strOk x = true) : PE S X f s (.str x) (.str x t) { s with toks := tk } := ⟨.toks s tk, by rw [VR]; exact ⟨⟨t, rfl⟩, h1, h2⟩, fun _ e => by cases e⟩
theorem PE.intH {i : Int} {t : Tok} {h' : Heap} {tk : Nat} (k : ∀ b o, s.heap.get? b = some o → h'.get? b = some o) : PE S X f s (.int i) (.int i t) { s with heap := h', toks := tk } := ⟨.heap k, by rw [VR]; exact ⟨t, rfl⟩, fun _ e => by cases e⟩
theorem PE.boolH {i : Bool} {h' : Heap} {tk : Nat} (k : ∀ b o, s.heap.get? b = some o → h'.get? b = some o) : PE S X f s (.bool i) (.bool i) { s with heap := h', toks := tk } := ⟨.heap k, by rw [VR], fun _ e => by cases e⟩
theorem zAU {i : Int} {v : Value} {h : Heap} (r : VR S X f h (.int i) v) : ∃ t, v = .int i t := by rwa [VR] at r
theorem zAu {i : Bool} {v : Value} {h : Heap} (r : VR S X f h (.bool i) v) : v = .bool i := by rwa [VR] at r
theorem zAY {i : Str} {v : Value} {h : Heap} (r : VR S X f h (.str i) v) : (∃ t, v = .str i t) ∧ i.length ≤ LIM ∧ PyData.strOk i = true := by rwa [VR] at r
theorem zDl {v : Value} {h : Heap} (r : VR S X f h .none v) : v = .none := by rwa [VR] at r
theorem zBg {xs : List V} {v : Value} {h : Heap} (r : VR S X f h (.tup xs) v) : SeqAt X f (IsT h) (VRs S X f h xs) xs.length v := by rwa [VR] at r
theorem zBT {x y : Str} (hx : PyData.strOk x = true) (hy : PyData.strOk y = true) : PyData.strOk (x ++ y) = true := by
  show (x.cps ++ y.cps).all _ = true
  rw [Array.all_append]
  exact Bool.and_eq_true_iff.mpr ⟨hx, hy⟩
theorem length_append (x y : Str) : (x ++ y).length = x.length + y.length := by show (x.cps ++ y.cps).size = _; simp [Str.length]
theorem zAJ {xs : List V} {vs : Array Value} {h : Heap} (r : VRs S X f h xs vs.toList) : vs.size = xs.length := by
  have := zBE r; simpa using this.symm
theorem zBC {vs : List Value} {xs : List V} {tk : Nat} (L : Lk S X f σ s.heap) (r : VRs S X f s.heap xs vs) (hl : xs.length ≤ LIM) :
    PE S X f s (.lst xs) (.ref s.heap.objs.size) { s with heap := s.heap.push { cls := .type "list", data := .seq vs.toArray }, toks := tk } := by
  have e : Ext s { s with heap := s.heap.push { cls := .type "list", data := .seq vs.toArray }, toks := tk } := .heap fun b o h => Heap.get?_push_of_some _ h
  have nl : NewL S X f s { s with heap := s.heap.push { cls := .type "list", data := .seq vs.toArray }, toks := tk } xs (.ref s.heap.objs.size) :=
    ⟨_, vs.toArray, 0, rfl, zAd _, Heap.get?_push_size _ rfl, by simpa using r, hl⟩
  exact ⟨e, nl.vr L e, fun ys q => by cases q; exact nl⟩
theorem zBV {vs : List Value} {xs : List V} {tk : Nat} (L : Lk S X f σ s.heap) (r : VRs S X f s.heap xs vs) (hl : xs.length ≤ LIM) :
    PE S X f s (.tup xs) (.ref s.heap.objs.size) { s with heap := s.heap.push { cls := .type "tuple", data := .seq vs.toArray }, toks := tk } := by
  have e : Ext s { s with heap := s.heap.push { cls := .type "tuple", data := .seq vs.toArray }, toks := tk } := .heap fun b o h => Heap.get?_push_of_some _ h
  refine ⟨e, ?_, fun ys q => by cases q⟩
  rw [VR]
  exact ⟨_, vs.toArray, 0, rfl, L.new (zAd _), Heap.get?_push_size _ rfl, by simpa using e.vrs r, hl⟩
theorem bin_int {op : Operator} {o : P2} (ho : binOf op = some o) {i j : Int} {x : V} {t u : Tok} (e : ev2 o σ (.int i) (.int j) = some x) :
    wpAny (model S.prog S.w) A (binaryOp op (.int i t) (.int j u)) (PE S X f s x) E s := by
  cases op <;> cases ho
  · cases e; exact PyProof.Rows.add_int .int
  · cases e; exact PyProof.Rows.sub_int .int
  · delta ev2 at e; dsimp only at e
    split at e
    · rename_i h
      cases e
      exact PyProof.Rows.mul_int .int ((Bool.or_eq_true_iff.mp h).elim (fun h => .of_left (zEy h)) fun h => .of_right (zEy h))
    · first | exact zAA e | exact ff_tt e | cases e
  · delta ev2 at e; dsimp only at e
    split at e
    · first | exact zAA e | exact ff_tt e | cases e
    · rename_i h
      cases e
      exact PyProof.Rows.mod_int (by simpa using h) .int
  · delta ev2 at e; dsimp only at e
    split at e
    · first | exact zAA e | exact ff_tt e | cases e
    · rename_i h
      cases e
      simp only [Bool.or_eq_true, beq_iff_eq, decide_eq_true_eq, not_or, Nat.not_le] at h
      exact floordiv_int h.1 .int (.inl (PyProof.noPylong_small h.2))
theorem add_sound {a b x : V} {va vb : Value} (L : Lk S X f σ s.heap) (e : ev2 .add σ a b = some x) (ra : VR S X f s.heap a va) (rb : VR S X f s.heap b vb) :
    wpAny (model S.prog S.w) A (binaryOp .Add va vb) (PE S X f s x) E s := by
  have lists : ∀ {xs ys : List V}, listOf? σ a = some xs → listOf? σ b = some ys → xs.length + ys.length ≤ LIM → wpAny (model S.prog S.w) A (binaryOp .Add va vb) (PE S X f s (.lst (xs ++ ys))) E s := by
    intro xs ys h1 h2 h3
    obtain ⟨p, vs, n, rfl, il, r1, l1⟩ := zAV L h1 ra
    obtain ⟨q, ws, m, rfl, il', r2, l2⟩ := zAV L h2 rb
    have z1 := zAJ r1
    have z2 := zAJ r2
    refine P.add_list il il' ?_ (by rw [z1, z2]; exact Nat.le_trans h3 zAO)
    have := zBC (tk := s.toks) L (zAt r1 r2) (by simpa using h3)
    rwa [app_arr] at this
  have gen : ((listOf? σ a).bind fun xs => (listOf? σ b).bind fun ys => if xs.length + ys.length ≤ LIM then some (V.lst (xs ++ ys)) else none) = some x → wpAny (model S.prog S.w) A (binaryOp .Add va vb) (PE S X f s x) E s := by
    intro e
    cases h1 : listOf? σ a with
    | none => first | (rw [h1] at e; exact zAA e) | simp [h1] at e
    | some xs =>
      cases h2 : listOf? σ b with
      | none => first | (rw [h1, h2] at e; exact zAA e) | (rw [h1, Option.bind_some, h2] at e; exact zAA e) | simp [h1, h2] at e
      | some ys =>
        simp only [h1, h2, Option.bind_some] at e
        split at e
        · rename_i h3; cases e; exact lists h1 h2 h3
        · first | exact zAA e | exact ff_tt e | cases e
  cases a with
  | int i =>
    cases b with
    | int j =>
      obtain ⟨t, rfl⟩ := zAU ra
      obtain ⟨u, rfl⟩ := zAU rb
      exact bin_int rfl e
    | _ => first | exact zAA e | exact ff_tt e | cases e
  | str i =>
    cases b with
    | str j =>
      obtain ⟨⟨t, rfl⟩, a1, a2⟩ := zAY ra
      obtain ⟨⟨u, rfl⟩, b1, b2⟩ := zAY rb
      delta ev2 at e; dsimp only at e
      split at e
      · rename_i h
        cases e
        refine PyProof.Rows.add_str (fun t' tk => .str ?_ (zBT a2 b2)) (Nat.le_trans h (by decide))
        rw [length_append]; exact Nat.le_trans h (by decide)
      · first | exact zAA e | exact ff_tt e | cases e
    | _ => first | exact zAA e | exact ff_tt e | cases e
  | tup xs =>
    cases b with
    | tup ys =>
      obtain ⟨p, vs, n, rfl, q1, il, r1, l1⟩ := zBg ra
      obtain ⟨q, ws, m, rfl, q2, il', r2, l2⟩ := zBg rb
      delta ev2 at e; dsimp only at e
      split at e
      · rename_i h3
        cases e
        have z1 := zAJ r1
        have z2 := zAJ r2
        by_cases hv : vs = #[]
        · subst hv
          have : xs = [] := List.length_eq_zero_iff.mp (by simpa using z1.symm)
          subst this
          refine concat_meets ⟨_, il, rfl⟩ ⟨_, il', rfl⟩ noFill_tuple_add seq_tuple_add PySem.F.slot_tuple_add PySem.F.entry_tuple_add (PySem.F.args_tuple_add_2 _ _) (tuple_addW0 p q #[] ws n m none none #[] #[] (by simp)) ⟨il, il', ?_⟩
          exact ⟨.refl s, rb, fun _ q => by cases q⟩
        · by_cases hw : ws = #[]
          · subst hw
            have : ys = [] := List.length_eq_zero_iff.mp (by simpa using z2.symm)
            subst this
            refine concat_meets ⟨_, il, rfl⟩ ⟨_, il', rfl⟩ noFill_tuple_add seq_tuple_add PySem.F.slot_tuple_add PySem.F.entry_tuple_add (PySem.F.args_tuple_add_2 _ _) (tuple_addW1 p q vs #[] n m none none #[] #[] (by simpa using hv) (by simp)) ⟨il, il', ?_⟩
            rw [List.append_nil]
            exact ⟨.refl s, ra, fun _ q => by cases q⟩
          · refine P.add_tuple il il' (by simpa using hv) (by simpa using hw) ?_ (by rw [z1, z2]; exact Nat.le_trans h3 zAO)
            have := zBV (tk := s.toks) L (zAt r1 r2) (by simpa using h3)
            rwa [app_arr] at this
      · first | exact zAA e | exact ff_tt e | cases e
    | _ => first | exact zAA e | exact ff_tt e | cases e
  | lst xs => exact gen e
  | ref n => exact gen e
  | _ => first | exact zAA e | exact ff_tt e | cases e
theorem cmp_int {op : CmpOp} {o : P2} (ho : cmpOf op = some o) (hn : op ≠ .Eq ∧ op ≠ .NotEq ∧ op ≠ .In ∧ op ≠ .NotIn) {i j : Int} {x : V} {t u : Tok} (e : ev2 o σ (.int i) (.int j) = some x) :
    wpAny (model S.prog S.w) A (compareOp op (.int i t) (.int j u)) (PE S X f s x) E s := by
  cases op <;> cases ho
  · exact absurd rfl hn.1
  · exact absurd rfl hn.2.1
  · cases e; exact P.lt_int .bool0
  · cases e; exact P.le_int .bool0
  · cases e; exact P.gt_int .bool0
  · cases e; exact P.ge_int .bool0
  · exact absurd rfl hn.2.2.1
  · exact absurd rfl hn.2.2.2
theorem zBv {g : Int → Int → Option V} {a b x : V} (e : (match a, b with | .int x, .int y => g x y | _, _ => none) = some x) : ∃ i j, a = .int i ∧ b = .int j := by
  cases a with
  | int i =>
    cases b with
    | int j => exact ⟨_, _, rfl, rfl⟩
    | _ => first | exact zAA e | exact ff_tt e | cases e
  | _ => first | exact zAA e | exact ff_tt e | cases e
theorem cmp_ints {op : CmpOp} {o : P2} (ho : cmpOf op = some o) (hn : op ≠ .Eq ∧ op ≠ .NotEq ∧ op ≠ .In ∧ op ≠ .NotIn) {a b x : V} (e : ev2 o σ a b = some x) : ∃ i j, a = .int i ∧ b = .int j := by
  cases op <;> cases ho
  · exact absurd rfl hn.1
  · exact absurd rfl hn.2.1
  all_goals first
    | exact absurd rfl hn.2.2.1
    | exact absurd rfl hn.2.2.2
    | exact zBv e
theorem zAZ {a : V} {va : Value} {b : Bool} (L : Lk S X f σ s.heap) (e : truthy σ a = some b) (ra : VR S X f s.heap a va) :
    wpAny (model S.prog S.w) A (PySem.truthy va) (fun c s' => c = b ∧ Ext s s') E s := by
  cases a with
  | none => obtain rfl := zDl ra; cases e; exact wpAny_pure ⟨rfl, .refl s⟩
  | bool c => obtain rfl := zAu ra; cases e; exact wpAny_truthy_bool ⟨rfl, .refl s⟩
  | int i => obtain ⟨t, rfl⟩ := zAU ra; cases e; exact P.truthy_int ⟨rfl, .refl s⟩
  | str x =>
    obtain ⟨⟨t, rfl⟩, h1, h2⟩ := zAY ra
    cases e
    refine P.truthy_str (by have := zAo h1; omega) ⟨?_, .toks s _⟩
    cases h : x.length <;> simp
    omega
  | tup xs =>
    obtain ⟨p, vs, n, rfl, q1, il, r1, l1⟩ := zBg ra
    cases e
    have z := zAJ r1
    refine PyProof.Rows.truthy_tuple ⟨_, il, rfl, n, rfl⟩ (by rw [z]; exact zAo l1) ⟨?_, .toks s _⟩
    cases xs <;> simp_all [Array.isEmpty]
  | lst xs =>
    cases e
    obtain ⟨p, vs, n, rfl, il, r1, l1⟩ := zAV L (x := .lst xs) rfl ra
    have z := zAJ r1
    refine wpAny_truthy_list (IsL.isList il) (by rw [z]; exact zAo l1) ⟨?_, .toks s _⟩
    cases xs <;> simp_all [Array.isEmpty]
  | ref k =>
    delta truthy at e; dsimp only at e
    split at e
    · rename_i ys ho
      cases e
      obtain ⟨p, vs, n, rfl, il, r1, l1⟩ := zAV L (x := .ref k) (xs := ys) (by simp [listOf?, ho, listR]) ra
      have z := zAJ r1
      refine wpAny_truthy_list (IsL.isList il) (by rw [z]; exact zAo l1) ⟨?_, .toks s _⟩
      cases ys <;> simp_all [Array.isEmpty]
    · first | exact zAA e | exact ff_tt e | cases e
  | undef => first | exact zAA e | exact ff_tt e | cases e
  | exc _ => first | exact zAA e | exact ff_tt e | cases e
  | parts => first | exact zAA e | exact ff_tt e | cases e
theorem len_seq {v : Value} {xs : List V} {a : Addr} {vs : Array Value} {n : Nat} (hv : v = .ref a) (il : IsL s.heap a vs n ∨ IsT s.heap a vs n) (r : VRs S X f s.heap xs vs.toList) (l : xs.length ≤ LIM) :
    wpAny (model S.prog S.w) A (call (.builtin "len") [v]) (PE S X f s (.int xs.length)) E s := by
  subst hv
  have z := zAJ r
  rcases il with il | il
  · have := Calls.call_len_list (prog := S.prog) (w := S.w) (A := A) (E := E) (Q := PE S X f s (.int xs.length)) (IsL.isList il) (by rw [z]; exact zAo l) (by rw [z]; exact .int)
    exact this
  · exact PyProof.Rows.len_tuple ⟨_, il, rfl, n, rfl⟩ (by rw [z]; exact zAo l) (by rw [z]; exact .int)
theorem len_sound {a x : V} {va : Value} (L : Lk S X f σ s.heap) (e : ev1 .len σ a = some x) (ra : VR S X f s.heap a va) :
    wpAny (model S.prog S.w) A (call (.builtin "len") [va]) (PE S X f s x) E s := by
  have gen : ∀ {xs : List V}, itemsOf σ a = some xs → x = .int xs.length → wpAny (model S.prog S.w) A (call (.builtin "len") [va]) (PE S X f s x) E s := by
    intro xs h1 h2
    obtain ⟨p, vs, n, h3, il, r1, l1⟩ := zCl L h1 ra
    rw [h2]; exact len_seq h3 il r1 l1
  cases a with
  | str y =>
    obtain ⟨⟨t, rfl⟩, h1, h2⟩ := zAY ra
    cases e
    exact PyProof.Rows.len_str (by have := zAo h1; omega) .int
  | tup xs => cases e; exact gen rfl rfl
  | lst xs => cases e; exact gen rfl rfl
  | ref k =>
    delta ev1 at e; dsimp only at e
    split at e
    · rename_i ys ho
      cases e
      exact gen (xs := ys) (by simp [itemsOf, ho]) rfl
    · first | exact zAA e | exact ff_tt e | cases e
  | _ => first | exact zAA e | exact ff_tt e | cases e
theorem zBi {n : Nat} {i : Int} {k : Nat} (h : normIndex n i = some k) : seqIndex? i n = some k ∧ k < n ∧ (0 ≤ i → k = i.toNat) ∧ (i < 0 → 0 ≤ i + n ∧ k = (i + n).toNat) := by
  unfold normIndex at h
  split at h
  · rename_i h0
    split at h
    · rename_i h1
      cases h
      refine ⟨seqIndex_of h0 (by omega), h1, fun _ => rfl, fun h => by omega⟩
    · first | exact zAA h | exact ff_tt h | cases h
  · rename_i h0
    split at h
    · rename_i h1
      cases h
      refine ⟨seqIndex_neg (by omega) (by omega), by omega, fun h => by omega, fun _ => ⟨h1, rfl⟩⟩
    · first | exact zAA h | exact ff_tt h | cases h
theorem zHB {xs : List V} {a : Addr} {vs : Array Value} {n : Nat} {i : Int} {t : Tok} {k : Nat} {x : V} (il : IsL s.heap a vs n ∨ IsT s.heap a vs n) (r : VRs S X f s.heap xs vs.toList) (l : xs.length ≤ LIM)
    (hk : normIndex xs.length i = some k) (hx : xs[k]? = some x) :
    wpAny (model S.prog S.w) A (getItem (.ref a) (.int i t)) (fun v s' => s' = s ∧ VR S X f s.heap x v) E s := by
  have z := zAJ r
  obtain ⟨v, hv, rv⟩ := zBu r hx
  rw [Array.getElem?_toList] at hv
  obtain ⟨h1, h2, h3, h4⟩ := zBi hk
  have hl := zAo l
  rcases il with il | il
  · by_cases h0 : 0 ≤ i
    · rw [h3 h0] at hv
      exact wpAny_getItem_list (IsL.isList il) h0 (by have := h3 h0; omega) hv ⟨rfl, rv⟩
    · obtain ⟨h5, h6⟩ := h4 (by omega)
      rw [h6] at hv
      exact wpAny_getItem_list_neg (IsL.isList il) (by omega) (by rw [z]; omega) (by omega) (by rw [z]; exact hv) ⟨rfl, rv⟩
  · refine PyProof.Rows.getItem_tuple ⟨_, il, rfl, n, rfl⟩ ?_ ?_ (by rw [z]; exact h1) hv ⟨rfl, rv⟩
    · by_cases h0 : 0 ≤ i
      · omega
      · have := h4 (by omega); omega
    · by_cases h0 : 0 ≤ i
      · have := h3 h0; omega
      · omega
end
end Mine
end

/-! # Ops3 -/
section
set_option autoImplicit false
namespace Mine
open PySem PyProof.Rows
theorem clip_int (n : Nat) (i : Int) : ((if i < 0 then (i + n).toNat else min i.toNat n : Nat) : Int) = if i < 0 then max (i + n) 0 else min i n := by
  split
  · rw [Int.max_comm]; exact Int.toNat_eq_max (i + n) |>.trans (Int.max_comm _ _)
  · rename_i h
    rw [Lean.Omega.Int.ofNat_min, Int.toNat_of_nonneg (Int.not_lt.mp h)]
theorem clip_eq (n : Nat) (i : Int) : (if i < 0 then (i + n).toNat else min i.toNat n) = (max 0 (min (if i < 0 then i + n else i) n)).toNat := by
  split
  · rename_i h
    rw [Int.min_eq_left (by omega), Int.max_comm, ← Int.toNat_eq_max, Int.toNat_natCast]
  · rename_i h
    have h := Int.not_lt.mp h
    have e : (i : Int) = (i.toNat : Int) := (Int.toNat_of_nonneg h).symm
    rw [Int.max_eq_right (Int.le_min.mpr ⟨h, Int.natCast_nonneg n⟩)]
    generalize i.toNat = k at e
    subst e
    rw [← Lean.Omega.Int.ofNat_min, Int.toNat_natCast]
theorem clip_start (n : Nat) (lo : Option Int) : sliceStart n lo = lo.elim 0 (clipAt n) := by
  cases lo with
  | none => rfl
  | some i =>
    exact clip_eq n i
theorem clip_stop (n : Nat) (hi : Option Int) : sliceStop n hi = hi.elim n (clipAt n) := by
  cases hi with
  | none => rfl
  | some i =>
    exact clip_eq n i
theorem zDq {α : Type} (xs : List α) (lo hi : Option Int) : sliceL xs lo hi = (xs.drop (sliceStart xs.length lo)).take (sliceStop xs.length hi - sliceStart xs.length lo) := by
  unfold sliceL; rw [List.drop_take]
theorem zCp {α : Type} (xs : List α) (lo hi : Option Int) : (sliceL xs lo hi).length ≤ xs.length := by
  unfold sliceL; simp; omega
theorem zGf (lo hi : Option Int) (n : Nat) : Builtin.Slice.sliceAdjust lo hi 1 (n : Int) = ((sliceStart n lo : Int), (sliceStop n hi : Int)) := by
  have h1 : ¬ ((1 : Int) < 0) := by omega
  unfold Builtin.Slice.sliceAdjust
  simp only [h1, if_false]
  congr 1
  · cases lo with
    | none => rfl
    | some i => exact (clip_int n i).symm
  · cases hi with
    | none => rfl
    | some i => exact (clip_int n i).symm
theorem zFi (a b : Nat) : Builtin.Slice.slicePlaces (a : Int) (b : Int) 1 = b - a := by
  unfold Builtin.Slice.slicePlaces
  have h1 : (1 : Int) > 0 := by omega
  simp only [h1, if_true, Int.ediv_one]
  split <;> omega
theorem pick_plain (xs : Array Value) (a k : Nat) : ((List.range k).filterMap fun (i : Nat) => xs[((a : Int) + (i : Int) * 1).toNat]?).toArray = ((xs.toList.drop a).take k).toArray := by
  have e : (fun (i : Nat) => xs[((a : Int) + (i : Int) * 1).toNat]?) = fun i => xs[a + i]? := by
    funext i
    have : ((a : Int) + (i : Int) * 1).toNat = a + i := by omega
    rw [this]
  rw [e]
  have := pick_run xs a k
  rw [List.filterMap_map] at this
  have e2 : ((fun x => xs[x]?) ∘ fun x => a + x) = fun k => xs[a + k]? := rfl
  rw [e2] at this
  rw [this]
section
variable {S : Stat} {A : Around} {X : List Addr} {f : List Loc} {σ : Sto} {s : Shared} {E : Value → Shared → Prop}
theorem zBx {v : Value} {k : Option Int} {Q : Option Int → Shared → Prop} (hv : IsPart v k) (h : Q k s) : wpAny (model S.prog S.w) A (Builtin.Slice.slicePartIndex v) Q E s := by
  cases hv with
  | none => exact slicePart_none h
  | int i t => exact slicePart_int h
theorem zBy {sl : Addr} {vl vu : Value} {lo hi : Option Int} {n : Nat} {Q : Int × Int × Nat → Shared → Prop} (hs : s.heap.IsSliceOf sl vl vu .none) (pl : IsPart vl lo) (pu : IsPart vu hi)
    (h : Q ((sliceStart n lo : Int), 1, sliceStop n hi - sliceStart n lo) s) :
    wpAny (model S.prog S.w) A (Builtin.Slice.sliceApplied (.ref sl) (pure (n : Int))) Q E s := by
  obtain ⟨os, hos, hcs, hds⟩ := id hs
  unfold Builtin.Slice.sliceApplied Builtin.Slice.sliceFields
  refine wpAny_bind (wpAny_bind (wpAny_field hos hds (x := vl) rfl (wpAny_bind (wpAny_field hos hds (x := vu) rfl (wpAny_bind (wpAny_field hos hds (x := .none) rfl (wpAny_pure ?_)))))))
  refine wpAny_bind (slicePart_none ?_)
  show wpAny _ _ (if ((1 : Int) == 0) = true then _ else _) _ _ s
  rw [if_neg (by decide)]
  refine wpAny_bind (zBx pl (wpAny_bind (zBx pu (wpAny_bind (wpAny_pure ?_)))))
  show wpAny _ _ (match Builtin.Slice.sliceAdjust lo hi 1 (n : Int) with | (lo, hi) => pure (lo, (1 : Int), Builtin.Slice.slicePlaces lo hi 1)) _ _ s
  rw [zGf]
  show wpAny _ _ (pure ((sliceStart n lo : Int), (1 : Int), Builtin.Slice.slicePlaces (sliceStart n lo : Int) (sliceStop n hi : Int) 1)) _ _ s
  rw [zFi]
  exact wpAny_pure h
theorem zCn {t sl : Addr} {xs : List V} {vs : Array Value} {n : Nat} {vl vu : Value} {lo hi : Option Int} (L : Lk S X f σ s.heap) (q : t ∉ addrs f ∧ t ∉ X) (il : IsT s.heap t vs n) (r : VRs S X f s.heap xs vs.toList) (l : xs.length ≤ LIM)
    (hs : s.heap.IsSliceOf sl vl vu .none) (pl : IsPart vl lo) (pu : IsPart vu hi) :
    wpAny (model S.prog S.w) A (getItem (.ref t) (.ref sl)) (PE S X f s (.tup (sliceL xs lo hi))) E s := by
  have ht : IsTup s.heap t vs := ⟨_, il, rfl, n, rfl⟩
  have z := zAJ r
  obtain ⟨os, hos, hcs, hds⟩ := id hs
  have hTs : s.TypeIs (.ref sl) "slice" := ⟨os, hos, hcs⟩
  unfold getItem
  try with_reducible refine wpAny_holding ?_
  first | refine wpAny_bind (wpAny_pure ?_) | skip
  refine wpAny_bind (wpAny_sequenceKey ht.typeIs (by decide) ?_)
  refine wpAny_bind (wpAny_callSpecial?_slot (name := Str.ofString "__getitem__") ht.typeIs slot_tuple_getitem
    (wpAny_call_entry slot_tuple_getitem ht.typeIs entry_tuple_getitem ?_ (args_tuple_getitem _ _)))
  show wpAny _ _ (Builtin.Tuple.tupleItemsOf (.ref t) >>= _) _ _ s
  refine wpAny_bind (tupleItemsOf_ ht ?_)
  refine wpAny_bind (wpAny_typeOf hTs ?_)
  rw [if_pos (by decide)]
  refine wpAny_bind (zBy hs pl pu ?_)
  show wpAny _ _ (if ((sliceStart vs.size lo : Int) == 0 && (1 : Int) == 1 && (sliceStop vs.size hi - sliceStart vs.size lo) == vs.size) = true then _ else _) _ _ s
  by_cases hw : ((sliceStart vs.size lo : Int) == 0 && (1 : Int) == 1 && (sliceStop vs.size hi - sliceStart vs.size lo) == vs.size) = true
  · rw [if_pos hw]
    simp only [Bool.and_eq_true, beq_iff_eq] at hw
    have hz : sliceStart vs.size lo = 0 := by have := hw.1.1; omega
    have he : sliceL xs lo hi = xs := by
      rw [zDq, ← z, hz, List.drop_zero, List.take_of_length_le]
      have := hw.2; rw [hz] at this; omega
    rw [he]
    have fin : PE S X f s (.tup xs) (.ref t) s := ⟨.refl s, by rw [VR]; exact ⟨t, vs, n, rfl, q, il, r, l⟩, fun _ q => by cases q⟩
    unfold Builtin.Tuple.tupleIsExact
    refine wpAny_bind (wpAny_bind (wpAny_typeOf ht.typeIs (wpAny_pure ?_)))
    rw [if_pos (by decide)]
    exact wpAny_bind (wpAny_rule (wpAny_pure ⟨_, rfl, wpAny_pure fin⟩))
  · rw [if_neg hw, pick_plain]
    have hd : ((vs.toList.drop (sliceStart vs.size lo)).take (sliceStop vs.size hi - sliceStart vs.size lo)) = sliceL vs.toList lo hi := by rw [zDq]; simp
    rw [hd]
    have hdrop : sizeOk (.seq (sliceL vs.toList lo hi).toArray) := by
      show (sliceL vs.toList lo hi).toArray.size ≤ sizeLine
      rw [List.size_toArray]
      have := zCp vs.toList lo hi
      have h2 : vs.toList.length = xs.length := by simpa using z
      have := zAO
      omega
    have rr : VRs S X f s.heap (sliceL xs lo hi) (sliceL vs.toList lo hi) := by
      unfold sliceL
      have h2 : vs.toList.length = xs.length := by simpa using z
      rw [h2]
      exact zFT (zFS r _) _
    have h := zBV (tk := s.toks) L rr (Nat.le_trans (zCp xs lo hi) l)
    first
      | exact wpAny_bind (m := Builtin.Tuple.tupleExact _) (wpAny_newObj_type (wpAny_pure ⟨_, rfl, wpAny_pure h⟩) hdrop)
      | exact wpAny_bind (m := Builtin.Tuple.tupleExact _) (wpAny_newObj_type (wpAny_bind (wpAny_pure (wpAny_pure ⟨_, rfl, wpAny_pure h⟩))) hdrop)
      | exact wpAny_bind (wpAny_bind (m := Builtin.Tuple.tupleExact _) (wpAny_newObj_type (wpAny_pure (wpAny_pure ⟨_, rfl, wpAny_pure h⟩)) hdrop))
      | exact wpAny_bind (wpAny_bind (m := Builtin.Tuple.tupleExact _) (wpAny_newObj_type (wpAny_pure ⟨_, rfl, wpAny_pure h⟩) hdrop))
theorem zDm {y : Str} {t : Tok} {sl : Addr} {vl vu : Value} {lo hi : Option Int} (hl : y.length ≤ LIM) (hok : PyData.strOk (Txt.slice y lo hi) = true) (hs : s.heap.IsSliceOf sl vl vu .none) (pl : IsPart vl lo) (pu : IsPart vu hi) :
    wpAny (model S.prog S.w) A (getItem (.str y t) (.ref sl)) (PE S X f s (.str (Txt.slice y lo hi))) E s := by
  have hz : (Txt.slice y lo hi).length ≤ LIM := Nat.le_trans (Txt.slice_le y lo hi) hl
  cases pl with
  | none =>
    cases pu with
    | none => exact wpAny_getItem_str_slice (l := none) (u := none) (st := none) hs rfl (post_val_or_str ⟨Nat.le_trans hz zAO, fun t' k => PE.str hz hok⟩)
    | int j u => exact wpAny_getItem_str_slice (l := none) (u := some (j, u)) (st := none) hs rfl (post_val_or_str ⟨Nat.le_trans hz zAO, fun t' k => PE.str hz hok⟩)
  | int i v =>
    cases pu with
    | none => exact wpAny_getItem_str_slice (l := some (i, v)) (u := none) (st := none) hs rfl (post_val_or_str ⟨Nat.le_trans hz zAO, fun t' k => PE.str hz hok⟩)
    | int j u => exact wpAny_getItem_str_slice (l := some (i, v)) (u := some (j, u)) (st := none) hs rfl (post_val_or_str ⟨Nat.le_trans hz zAO, fun t' k => PE.str hz hok⟩)
theorem zDH {t sl : Addr} {xs : List V} {vs : Array Value} {n : Nat} {vl vu : Value} {lo hi : Option Int} (L : Lk S X f σ s.heap) (il : IsL s.heap t vs n) (r : VRs S X f s.heap xs vs.toList) (l : xs.length ≤ LIM)
    (hs : s.heap.IsSliceOf sl vl vu .none) (pl : IsPart vl lo) (pu : IsPart vu hi) :
    wpAny (model S.prog S.w) A (getItem (.ref t) (.ref sl)) (PE S X f s (.lst (sliceL xs lo hi))) E s := by
  have z := zAJ r
  refine wpAny_getItem_list_slice (IsL.isList il) hs pl pu .none (by simp) ?_ (by rw [z]; exact Nat.le_trans l zAO)
  rw [slicePick_plain, ← clip_start, ← clip_stop]
  have hd : ((vs.toList.drop (sliceStart vs.size lo)).take (sliceStop vs.size hi - sliceStart vs.size lo)) = sliceL vs.toList lo hi := by rw [zDq]; simp
  rw [hd]
  have rr : VRs S X f s.heap (sliceL xs lo hi) (sliceL vs.toList lo hi) := by
    unfold sliceL
    have h2 : vs.toList.length = xs.length := by simpa using z
    rw [h2]
    exact zFT (zFS r _) _
  exact zBC (tk := s.toks) L rr (Nat.le_trans (zCp xs lo hi) l)
end
end Mine
end

/-! # Ops4 -/
section
set_option autoImplicit false
namespace Mine
open PySem PyProof.Rows
section
variable {S : Stat} {A : Around} {X : List Addr} {f : List Loc} {σ : Sto} {s : Shared} {E : Value → Shared → Prop}
theorem zGy (ys : List (Int × Tok)) : (ys.map fun p => Value.int p.1 p.2).toArray = intItems ys.toArray := by simp [intItems]
theorem zEZ {a : V} {va : Value} {xs : List V} {l : List Int} (L : Lk S X f σ s.heap) (h1 : listOf? σ a = some xs) (h2 : ints? xs = some l) (ra : VR S X f s.heap a va) :
    ∃ (p : Addr) (ys : List (Int × Tok)), va = .ref p ∧ s.heap.IsList p (intItems ys.toArray) ∧ ys.map (·.1) = l := by
  obtain ⟨p, vs, n, rfl, il, r, _⟩ := zAV L h1 ra
  obtain ⟨ys, e1, e2⟩ := ints_at h2 r
  refine ⟨p, ys, rfl, ?_, e2⟩
  rw [← zGy, ← e1]
  exact IsL.isList il
theorem sum_sound {a x : V} {va : Value} (hh : A.handled = none) (L : Lk S X f σ s.heap) (e : ev1 .sum σ a = some x) (ra : VR S X f s.heap a va) :
    wpAny (model S.prog S.w) A (call (.builtin "sum") [va]) (PE S X f s x) E s := by
  delta ev1 at e; dsimp only at e
  cases h1 : listOf? σ a with
  | none => first | (rw [h1] at e; exact zAA e) | simp [h1] at e
  | some xs =>
    cases h2 : ints? xs with
    | none => first | (rw [h1, h2] at e; exact zAA e) | (rw [h1, Option.bind_some, h2] at e; exact zAA e) | simp [h1, h2] at e
    | some l =>
      simp [h1, h2] at e
      subst e
      obtain ⟨p, ys, rfl, il, rfl⟩ := zEZ L h1 h2 ra
      refine sum_intListG hh il fun h' tk t' k => ?_
      rw [preSum_eq, List.take_of_length_le (by simp)]
      exact .intH k
theorem best_min (l : List Int) (m : Int) (hm : m ∈ l) (hle : ∀ a ∈ l, m ≤ a) : minL l = some m := by
  cases l with
  | nil => first | exact zAA hm | exact ff_tt hm | cases hm
  | cons x xs =>
    simp only [minL]
    congr 1
    have key : ∀ (ys : List Int) (b : Int), (ys.foldl (fun m y => if y < m then y else m) b ∈ b :: ys) ∧ ∀ a ∈ b :: ys, ys.foldl (fun m y => if y < m then y else m) b ≤ a := by
      intro ys
      induction ys with
      | nil => intro b; simp
      | cons y ys ih =>
        intro b
        simp only [List.foldl_cons]
        obtain ⟨h1, h2⟩ := ih (if y < b then y else b)
        constructor
        · rcases List.mem_cons.mp h1 with h | h
          · rw [h]; split <;> simp
          · exact List.mem_cons_of_mem _ (List.mem_cons_of_mem _ h)
        · intro a ha
          have h0 := h2 (if y < b then y else b) (List.mem_cons_self)
          have hb : (if y < b then y else b) ≤ b := by split <;> omega
          have hy : (if y < b then y else b) ≤ y := by split <;> omega
          rcases List.mem_cons.mp ha with rfl | ha
          · exact Int.le_trans h0 hb
          · rcases List.mem_cons.mp ha with rfl | ha
            · exact Int.le_trans h0 hy
            · exact h2 a (List.mem_cons_of_mem _ ha)
    obtain ⟨h1, h2⟩ := key xs x
    exact Int.le_antisymm (h2 m hm) (hle _ h1)
theorem best_max (l : List Int) (m : Int) (hm : m ∈ l) (hle : ∀ a ∈ l, a ≤ m) : maxL l = some m := by
  cases l with
  | nil => first | exact zAA hm | exact ff_tt hm | cases hm
  | cons x xs =>
    simp only [maxL]
    congr 1
    have key : ∀ (ys : List Int) (b : Int), (ys.foldl (fun m y => if y > m then y else m) b ∈ b :: ys) ∧ ∀ a ∈ b :: ys, a ≤ ys.foldl (fun m y => if y > m then y else m) b := by
      intro ys
      induction ys with
      | nil => intro b; simp
      | cons y ys ih =>
        intro b
        simp only [List.foldl_cons]
        obtain ⟨h1, h2⟩ := ih (if y > b then y else b)
        constructor
        · rcases List.mem_cons.mp h1 with h | h
          · rw [h]; split <;> simp
          · exact List.mem_cons_of_mem _ (List.mem_cons_of_mem _ h)
        · intro a ha
          have h0 := h2 (if y > b then y else b) (List.mem_cons_self)
          have hb : b ≤ (if y > b then y else b) := by split <;> omega
          have hy : y ≤ (if y > b then y else b) := by split <;> omega
          rcases List.mem_cons.mp ha with rfl | ha
          · exact Int.le_trans hb h0
          · rcases List.mem_cons.mp ha with rfl | ha
            · exact Int.le_trans hy h0
            · exact h2 a (List.mem_cons_of_mem _ ha)
    obtain ⟨h1, h2⟩ := key xs x
    exact Int.le_antisymm (hle _ h1) (h2 m hm)
theorem min_sound {a x : V} {va : Value} (hh : A.handled = none) (L : Lk S X f σ s.heap) (e : ev1 .min σ a = some x) (ra : VR S X f s.heap a va) :
    wpAny (model S.prog S.w) A (call (.builtin "min") [va]) (PE S X f s x) E s := by
  delta ev1 at e; dsimp only at e
  cases h1 : listOf? σ a with
  | none => first | (rw [h1] at e; exact zAA e) | simp [h1] at e
  | some xs =>
    cases h2 : ints? xs with
    | none => first | (rw [h1, h2] at e; exact zAA e) | (rw [h1, Option.bind_some, h2] at e; exact zAA e) | simp [h1, h2] at e
    | some l =>
      cases h3 : minL l with
      | none => first | (rw [h1, h2, h3] at e; exact zAA e) | (rw [h1, Option.bind_some, h2, Option.bind_some, h3] at e; exact zAA e) | simp [h1, h2, h3] at e
      | some m =>
        simp [h1, h2, h3] at e
        subst e
        obtain ⟨p, ys, rfl, il, rfl⟩ := zEZ L h1 h2 ra
        have hne : 0 < ys.toArray.size := by
          cases ys with
          | nil => simp [minL] at h3
          | cons y ys => simp
        refine min_intList hh il hne fun v h' tk hv k => ?_
        obtain ⟨t, rfl⟩ := intItems_at hv
        obtain ⟨g1, g2⟩ := argBest_lt (numAt ys.toArray) (ys.toArray.size - 1)
        have := best_min (ys.map (·.1)) (numAt ys.toArray (argBest (fun i j => decide (numAt ys.toArray i < numAt ys.toArray j)) (ys.toArray.size - 1)))
          (by rw [numAt_eq]; exact PySem.getD_mem (by simp; simp at g1 hne; omega))
          (fun a ha => by obtain ⟨j, hj, rfl⟩ := PySem.mem_getD ha; have := g2 j (by simp at hj ⊢; omega); rw [numAt_eq ys.toArray j] at this; simpa using this)
        rw [h3] at this
        cases this
        exact .intH k
theorem max_sound {a x : V} {va : Value} (hh : A.handled = none) (L : Lk S X f σ s.heap) (e : ev1 .max σ a = some x) (ra : VR S X f s.heap a va) :
    wpAny (model S.prog S.w) A (call (.builtin "max") [va]) (PE S X f s x) E s := by
  delta ev1 at e; dsimp only at e
  cases h1 : listOf? σ a with
  | none => first | (rw [h1] at e; exact zAA e) | simp [h1] at e
  | some xs =>
    cases h2 : ints? xs with
    | none => first | (rw [h1, h2] at e; exact zAA e) | (rw [h1, Option.bind_some, h2] at e; exact zAA e) | simp [h1, h2] at e
    | some l =>
      cases h3 : maxL l with
      | none => first | (rw [h1, h2, h3] at e; exact zAA e) | (rw [h1, Option.bind_some, h2, Option.bind_some, h3] at e; exact zAA e) | simp [h1, h2, h3] at e
      | some m =>
        simp [h1, h2, h3] at e
        subst e
        obtain ⟨p, ys, rfl, il, rfl⟩ := zEZ L h1 h2 ra
        have hne : 0 < ys.toArray.size := by
          cases ys with
          | nil => simp [maxL] at h3
          | cons y ys => simp
        refine max_intList hh il hne fun v h' tk hv k => ?_
        obtain ⟨t, rfl⟩ := intItems_at hv
        obtain ⟨g1, g2⟩ := argBest_gt (numAt ys.toArray) (ys.toArray.size - 1)
        have := best_max (ys.map (·.1)) (numAt ys.toArray (argBest (fun i j => decide (numAt ys.toArray i > numAt ys.toArray j)) (ys.toArray.size - 1)))
          (by rw [numAt_eq]; exact PySem.getD_mem (by simp; simp at g1 hne; omega))
          (fun a ha => by obtain ⟨j, hj, rfl⟩ := PySem.mem_getD ha; have := g2 j (by simp at hj ⊢; omega); rw [numAt_eq ys.toArray j] at this; simpa using this)
        rw [h3] at this
        cases this
        exact .intH k
theorem zFZ {a x : V} {va : Value} (L : Lk S X f σ s.heap) (e : ev1 .toList σ a = some x) (ra : VR S X f s.heap a va) :
    wpAny (model S.prog S.w) A (call (.type "list") [va]) (PE S X f s x) E s := by
  delta ev1 at e; dsimp only at e
  cases h1 : itemsOf σ a with
  | none => first | (rw [h1] at e; exact zAA e) | simp [h1] at e
  | some xs =>
    simp [h1] at e
    subst e
    obtain ⟨p, vs, n, rfl, il, r, l⟩ := zCl L h1 ra
    have z := zAJ r
    have fin : ∀ (h' : Heap) (c' : Nat), (∀ b o', s.heap.get? b = some o' → h'.get? b = some o') → h'.get? s.heap.objs.size = some { cls := .type "list", data := .seq vs c' } → PE S X f s (.lst xs) (.ref s.heap.objs.size) { s with heap := h' } := by
      intro h' c' k hl
      have e : Ext s { s with heap := h' } := .heap (t := s.toks) k
      have nl : NewL S X f s { s with heap := h' } xs (.ref s.heap.objs.size) := ⟨_, vs, c', rfl, zAd _, hl, r, l⟩
      exact ⟨e, nl.vr L e, fun ys q => by cases q; exact nl⟩
    rcases il with il | il
    · exact call_list_seq p (T := "list") (.inl rfl) il rfl rfl fin (by rw [z]; exact Nat.le_trans l zAO)
    · exact call_list_seq p (T := "tuple") (.inr rfl) il rfl rfl fin (by rw [z]; exact Nat.le_trans l zAO)
theorem abs_sound {i : Int} {t : Tok} : wpAny (model S.prog S.w) A (call (.builtin "abs") [.int i t]) (PE S X f s (.int i.natAbs)) E s := by
  refine call_abs_int fun u tk => ?_
  have : (if i < 0 then -i else i) = (i.natAbs : Int) := by split <;> omega
  rw [this]; exact .int
theorem neg_sound {i : Int} {t : Tok} : wpAny (model S.prog S.w) A (unaryOp .USub (.int i t)) (PE S X f s (.int (-i))) E s := PyProof.Rows.neg_int .int
theorem min2_sound {i j : Int} {t u : Tok} (hh : A.handled = none) : wpAny (model S.prog S.w) A (call (.builtin "min") [.int i t, .int j u]) (PE S X f s (.int (if j < i then j else i))) E s := by
  refine min_two_ints hh fun h' tk k => ?_
  split <;> exact .intH k
theorem max2_sound {i j : Int} {t u : Tok} (hh : A.handled = none) : wpAny (model S.prog S.w) A (call (.builtin "max") [.int i t, .int j u]) (PE S X f s (.int (if j > i then j else i))) E s := by
  refine max_two_ints hh fun h' tk k => ?_
  split <;> exact .intH k
noncomputable def ReadsD (h : Heap) (v : Value) (p : PyData) (d : Nat) : Prop := (∃ as, Reads h v p as) ∧ p.canLay0 = true ∧ p.depth ≤ d
noncomputable def ReadsDs (h : Heap) (vs : List Value) (ps : List PyData) (d : Nat) : Prop := (∃ as, ReadsAll h vs ps as) ∧ PyData.canLayAll0 ps = true ∧ PyData.depthAll ps ≤ d
theorem zHZ {h : Heap} {d : Nat} (ih : ∀ (x : V) (v : Value) (p : PyData), toPy σ d x = some p → VR S X f h x v → ReadsD h v p d) : ∀ (xs : List V) (vs : List Value) (ps : List PyData), xs.mapM (toPy σ d) = some ps → VRs S X f h xs vs → ReadsDs h vs ps d := by
  intro xs
  induction xs with
  | nil =>
    intro vs ps e r
    cases vs with
    | nil => cases e; exact ⟨⟨_, .nil⟩, rfl, Nat.zero_le _⟩
    | cons _ _ => rw [VRs] at r; exact r.elim
  | cons x xs ih2 =>
    intro vs ps e r
    cases vs with
    | nil => rw [VRs] at r; exact r.elim
    | cons v vs =>
      rw [VRs] at r
      rw [List.mapM_cons] at e
      obtain ⟨p, h1, e⟩ := Option.bind_eq_some_iff.mp e
      obtain ⟨ps', h2, e⟩ := Option.bind_eq_some_iff.mp e
      cases e
      obtain ⟨⟨as, a1⟩, a2, a3⟩ := ih x v p h1 r.1
      obtain ⟨⟨bs, b1⟩, b2, b3⟩ := ih2 vs ps' h2 r.2
      exact ⟨⟨_, .cons a1 b1⟩, by rw [PyData.canLayAll0, a2, b2]; rfl, by rw [PyData.depthAll]; exact Nat.max_le.mpr ⟨a3, b3⟩⟩
theorem zEo {h : Heap} (L : Lk S X f σ h) (d : Nat) : ∀ (x : V) (v : Value) (p : PyData), toPy σ d x = some p → VR S X f h x v → ReadsD h v p d := by
  induction d with
  | zero => intro x v p e; cases e
  | succ d ih =>
    intro x v p e r
    have lists : ∀ {xs : List V}, listOf? σ x = some xs → (xs.mapM (toPy σ d)).map PyData.list = some p → ReadsD h v p (d + 1) := fun h1 e => by
      obtain ⟨a, vs, n, rfl, il, rs, _⟩ := zAV L h1 r
      obtain ⟨ps, e1, rfl⟩ := Option.map_eq_some_iff.mp e
      obtain ⟨⟨as, r1⟩, r2, r3⟩ := zHZ ih _ _ _ e1 rs
      exact ⟨⟨_, .list il rfl rfl r1⟩, r2, by rw [PyData.depth]; omega⟩
    cases x with
    | none => cases e; obtain rfl := zDl r; exact ⟨⟨_, .none⟩, rfl, Nat.zero_le _⟩
    | bool b => cases e; obtain rfl := zAu r; exact ⟨⟨_, .bool b⟩, rfl, Nat.zero_le _⟩
    | int i => cases e; obtain ⟨t, rfl⟩ := zAU r; exact ⟨⟨_, .int i t⟩, rfl, Nat.zero_le _⟩
    | str y => cases e; obtain ⟨⟨t, rfl⟩, h1, h2⟩ := zAY r; exact ⟨⟨_, .str y t⟩, h2, Nat.zero_le _⟩
    | tup xs =>
      obtain ⟨a, vs, n, rfl, _, il, rs, _⟩ := zBg r
      have e : (xs.mapM (toPy σ d)).map PyData.tuple = some p := e
      obtain ⟨ps, e1, rfl⟩ := Option.map_eq_some_iff.mp e
      obtain ⟨⟨as, r1⟩, r2, r3⟩ := zHZ ih _ _ _ e1 rs
      exact ⟨⟨_, .tuple il rfl rfl r1⟩, r2, by rw [PyData.depth]; omega⟩
    | lst xs => exact lists rfl e
    | ref k =>
      have e : toPyO (toPy σ d) σ[k]? = some p := e
      cases ho : σ[k]? with
      | none => rw [ho] at e; first | exact zAA e | exact ff_tt e | cases e
      | some o =>
        rw [ho] at e
        cases o with
        | list xs => exact lists (show listR σ[k]? = some xs by rw [ho]; rfl) e
        | _ => first | exact zAA e | exact ff_tt e | cases e
    | undef => first | exact zAA e | exact ff_tt e | cases e
    | exc _ => first | exact zAA e | exact ff_tt e | cases e
    | parts => first | exact zAA e | exact ff_tt e | cases e
theorem zGY {a b : V} {va vb : Value} {r : Bool} (hu : A.units + 64 < cLine) (L : Lk S X f σ s.heap) (e : eqV.eqD σ a b = some r) (ra : VR S X f s.heap a va) (rb : VR S X f s.heap b vb) :
    wpAny (model S.prog S.w) A (compareOp .Eq va vb) (PE S X f s (.bool r)) E s ∧ wpAny (model S.prog S.w) A (compareOp .NotEq va vb) (PE S X f s (.bool !r)) E s := by
  unfold eqV.eqD at e
  cases h1 : toPy σ eqDepth a with
  | none => first | (rw [h1] at e; exact zAA e) | simp [h1] at e
  | some p =>
    cases h2 : toPy σ eqDepth b with
    | none => first | (rw [h1, h2] at e; exact zAA e) | (rw [h1, Option.bind_some, h2] at e; exact zAA e) | simp [h1, h2] at e
    | some q =>
      simp [h1, h2] at e
      subst e
      obtain ⟨⟨as, a1⟩, a2, a3⟩ := zEo L _ _ _ _ h1 ra
      obtain ⟨⟨bs, b1⟩, b2, b3⟩ := zEo L _ _ _ _ h2 rb
      have sa : SeqAt.shaped p = true := by unfold SeqAt.shaped; rw [a2, Bool.true_and]; exact decide_eq_true (Nat.le_trans a3 (by decide))
      have sb : SeqAt.shaped q = true := by unfold SeqAt.shaped; rw [b2, Bool.true_and]; exact decide_eq_true (Nat.le_trans b3 (by decide))
      exact ⟨SeqAt.compareEq_shaped a1 b1 sa sb hu .bool0, SeqAt.compareNe_shaped a1 b1 sa sb hu .bool0⟩
end
end Mine
end

/-! # Ops5 -/
section
set_option autoImplicit false
namespace Mine
open PySem PyProof.Rows
section
variable {S : Stat} {A : Around} {X : List Addr} {f : List Loc} {σ : Sto} {s : Shared} {E : Value → Shared → Prop}
theorem zEj (l : List Bool) : (List.range l.length).all (fun i => (l[i]?).getD true) = l.all id := by
  rw [Bool.eq_iff_iff, List.all_eq_true, List.all_eq_true]
  constructor
  · intro h x hx
    obtain ⟨i, hi, rfl⟩ := List.getElem_of_mem hx
    have := h i (List.mem_range.mpr hi)
    rw [List.getElem?_eq_getElem hi] at this
    exact this
  · intro h i hi
    rw [List.getElem?_eq_getElem (List.mem_range.mp hi)]
    exact h _ (List.getElem_mem _)
theorem zGj {a x : V} {va : Value} (L : Lk S X f σ s.heap) (e : ev1 .toTup σ a = some x) (ra : VR S X f s.heap a va) :
    wpAny (model S.prog S.w) A (call (.type "tuple") [va]) (PE S X f s x) E s := by
  delta ev1 at e; dsimp only at e; simp only [Option.map_eq_some_iff] at e
  obtain ⟨xs, h1, rfl⟩ := e
  obtain ⟨p, vs, n, rfl, il, r, l⟩ := zAV L h1 ra
  have z := zAJ r
  refine call_tuple_list (IsL.isList il) (fun h' k => ?_) (by rw [z]; exact Nat.le_trans l zAO)
  have e1 : Ext s { s with heap := h'.push { cls := .type "tuple", data := .seq vs } } := .heap (t := s.toks) fun b o q => Heap.get?_push_of_some _ (k b o q)
  have hn : s.heap.get? h'.objs.size = none := by
    cases q : s.heap.get? h'.objs.size with
    | none => rfl
    | some o => have := zAd h'; rw [k _ _ q] at this; cases this
  refine ⟨e1, ?_, fun _ q => by cases q⟩
  rw [VR]
  exact ⟨_, vs, 0, rfl, L.new hn, Heap.get?_push_size _ rfl, e1.vrs r, l⟩
theorem toInt_sound {a x : V} {va : Value} (e : ev1 .toInt σ a = some x) (ra : VR S X f s.heap a va) :
    wpAny (model S.prog S.w) A (call (.type "int") [va]) (PE S X f s x) E s := by
  cases a with
  | bool b => obtain rfl := zAu ra; cases e; exact call_int_bool .int
  | int i => obtain ⟨t, rfl⟩ := zAU ra; cases e; exact call_int_int (.int (tk := s.toks))
  | str y =>
    obtain ⟨⟨t, rfl⟩, _⟩ := zAY ra
    have e : (if y.length ≤ 640 then (intText? y).map V.int else none) = some x := e
    split at e
    · rename_i hl
      simp only [Option.map_eq_some_iff] at e
      obtain ⟨n, hn, rfl⟩ := e
      exact PySem.W.KIN.call_text hn hl .int
    · first | exact zAA e | exact ff_tt e | cases e
  | _ => first | exact zAA e | exact ff_tt e | cases e
theorem zGT {a x : V} {va : Value} (e : ev1 .isNone σ a = some x) (ra : VR S X f s.heap a va) (hp : S.parts ≠ .none) :
    wpAny (model S.prog S.w) A (compareOp .Is va .none) (PE S X f s x) E s := by
  refine is_none ?_
  cases a with
  | none => obtain rfl := zDl ra; simp [ev1] at e; subst e; exact .bool0
  | bool b => obtain rfl := zAu ra; simp [ev1] at e; subst e; exact .bool0
  | int i => obtain ⟨t, rfl⟩ := zAU ra; simp [ev1] at e; subst e; exact .bool0
  | str y => obtain ⟨⟨t, rfl⟩, _⟩ := zAY ra; simp [ev1] at e; subst e; exact .bool0
  | tup xs => obtain ⟨p, vs, n, rfl, _⟩ := zBg ra; simp [ev1] at e; subst e; exact .bool0
  | lst xs => rw [VR] at ra; obtain ⟨p, vs, n, rfl, _⟩ := ra; simp [ev1] at e; subst e; exact .bool0
  | ref k => rw [VR] at ra; obtain ⟨l, _, rfl⟩ := ra; simp [ev1] at e; subst e; exact .bool0
  | exc c => rw [VR] at ra; obtain ⟨p, o, rfl, _⟩ := ra; simp [ev1] at e; subst e; exact .bool0
  | parts =>
    rw [VR] at ra; obtain ⟨_, rfl⟩ := ra; simp [ev1] at e; subst e
    have : (S.parts == Value.none) = false := by simpa using hp
    rw [this]; exact .bool0
  | undef => rw [VR] at ra; exact ra.elim
theorem zEY {a x : V} {va : Value} (e : ev1 .isNotNone σ a = some x) (ra : VR S X f s.heap a va) (hp : S.parts ≠ .none) :
    wpAny (model S.prog S.w) A (compareOp .IsNot va .none) (PE S X f s x) E s := by
  refine isNot_none ?_
  cases a with
  | none => obtain rfl := zDl ra; simp [ev1] at e; subst e; exact .bool0
  | bool b => obtain rfl := zAu ra; simp [ev1] at e; subst e; exact .bool0
  | int i => obtain ⟨t, rfl⟩ := zAU ra; simp [ev1] at e; subst e; exact .bool0
  | str y => obtain ⟨⟨t, rfl⟩, _⟩ := zAY ra; simp [ev1] at e; subst e; exact .bool0
  | tup xs => obtain ⟨p, vs, n, rfl, _⟩ := zBg ra; simp [ev1] at e; subst e; exact .bool0
  | lst xs => rw [VR] at ra; obtain ⟨p, vs, n, rfl, _⟩ := ra; simp [ev1] at e; subst e; exact .bool0
  | ref k => rw [VR] at ra; obtain ⟨l, _, rfl⟩ := ra; simp [ev1] at e; subst e; exact .bool0
  | exc c => rw [VR] at ra; obtain ⟨p, o, rfl, _⟩ := ra; simp [ev1] at e; subst e; exact .bool0
  | parts =>
    rw [VR] at ra; obtain ⟨_, rfl⟩ := ra; simp [ev1] at e; subst e
    have : (S.parts == Value.none) = false := by simpa using hp
    rw [this]; exact .bool0
  | undef => rw [VR] at ra; exact ra.elim
noncomputable def tyName : Kd → String
  | .int => "int" | .bool => "bool" | .str => "str" | .list => "list" | .tuple => "tuple" | .exc _ => "ValueError"
theorem of_pe {x a : V} {t : Sem Value} (e : some a = some x) (h : wpAny (model S.prog S.w) A t (PE S X f s a) E s) : wpAny (model S.prog S.w) A t (PE S X f s x) E s := Option.some.inj e ▸ h
theorem sub_ve (c : Cls) : c.sub .ValueError = true := by cases c <;> rfl
theorem zGU {a x : V} {va : Value} {k : Kd}
    (hk : ∀ c, k = .exc c → c = .ValueError)
    (L : Lk S X f σ s.heap) (e : ev1 (.isInst k) σ a = some x) (ra : VR S X f s.heap a va) :
    wpAny (model S.prog S.w) A (call (.builtin "isinstance") [va, .type (tyName k)]) (PE S X f s x) E s := by
  cases a with
  | undef => first | exact zAA e | exact ff_tt e | cases e
  | parts => first | exact zAA e | exact ff_tt e | cases e
  | exc c =>
    cases k with
    | exc d =>
      obtain rfl := hk d rfl
      rw [VR] at ra
      obtain ⟨p, o, rfl, -, e3, e4, e5⟩ := ra
      obtain ⟨Ca, bm, N, nm, qn, bs, hdct, sn, sub, ab, col, dd, k0, k1, k2, k3, k5, mN, hcl, hC, hN, hni, OT, hm, TC⟩ := e5
      obtain ⟨hp, g, d, tk, os⟩ := s
      refine of_pe e (isi_ve (L.base _ _ hC) (TC.keeps L.base) e3 (e4.trans hcl) ?_)
      rw [sub_ve]
      exact .bool0
    | _ => exact zAA e
  | none =>
    obtain rfl := zDl ra
    cases k <;> first | exact zAA e | skip
    · exact of_pe e (IsiPair.NoneType_int .bool)
    · exact of_pe e (IsiPair.NoneType_bool .bool)
    · exact of_pe e (IsiPair.NoneType_str .bool)
    · exact of_pe e (IsiPair.NoneType_list .bool)
    · exact of_pe e (IsiPair.NoneType_tuple .bool)
  | bool b =>
    obtain rfl := zAu ra
    cases k <;> first | exact zAA e | skip
    · exact of_pe e (IsiPair.bool_int .bool0)
    · exact of_pe e (IsiPair.bool_bool .bool0)
    · exact of_pe e (IsiPair.bool_str .bool)
    · exact of_pe e (IsiPair.bool_list .bool)
    · exact of_pe e (IsiPair.bool_tuple .bool)
  | int i =>
    obtain ⟨t, rfl⟩ := zAU ra
    cases k <;> first | exact zAA e | skip
    · exact of_pe e (IsiPair.int_int .bool0)
    · exact of_pe e (IsiPair.int_bool .bool)
    · exact of_pe e (IsiPair.int_str .bool)
    · exact of_pe e (IsiPair.int_list .bool)
    · exact of_pe e (IsiPair.int_tuple .bool)
  | str y =>
    obtain ⟨⟨t, rfl⟩, _⟩ := zAY ra
    cases k <;> first | exact zAA e | skip
    · exact of_pe e (IsiPair.str_int .bool)
    · exact of_pe e (IsiPair.str_bool .bool)
    · exact of_pe e (IsiPair.str_str .bool0)
    · exact of_pe e (IsiPair.str_list .bool)
    · exact of_pe e (IsiPair.str_tuple .bool)
  | tup xs =>
    obtain ⟨p, vs, n, rfl, _, il, _⟩ := zBg ra
    cases k <;> first | exact zAA e | skip
    · exact of_pe e (IsiPair.tuple_int il rfl .bool)
    · exact of_pe e (IsiPair.tuple_bool il rfl .bool)
    · exact of_pe e (IsiPair.tuple_str il rfl .bool)
    · exact of_pe e (IsiPair.tuple_list il rfl .bool)
    · exact of_pe e (IsiPair.tuple_tuple il rfl .bool0)
  | lst xs =>
    obtain ⟨p, vs, n, rfl, il, _⟩ := zAV L (x := .lst xs) rfl ra
    cases k <;> first | exact zAA e | skip
    · exact of_pe e (IsiPair.list_int il rfl .bool)
    · exact of_pe e (IsiPair.list_bool il rfl .bool)
    · exact of_pe e (IsiPair.list_str il rfl .bool)
    · exact of_pe e (IsiPair.list_list il rfl .bool0)
    · exact of_pe e (IsiPair.list_tuple il rfl .bool)
  | ref m =>
    cases ho : σ[m]? with
    | none => have e : (refK σ[m]? k).map V.bool = some x := e; rw [ho] at e; cases e
    | some o =>
      cases o with
      | list ys =>
        obtain ⟨p, vs, n, rfl, il, _⟩ := zAV L (x := .ref m) (xs := ys) (by simp [listOf?, ho, listR]) ra
        have e : (refK σ[m]? k).map V.bool = some x := e
        rw [ho] at e
        cases k <;> first | exact zAA e | skip
        · exact of_pe e (IsiPair.list_int il rfl .bool)
        · exact of_pe e (IsiPair.list_str il rfl .bool)
        · exact of_pe e (IsiPair.list_list il rfl .bool0)
        · exact of_pe e (IsiPair.list_tuple il rfl .bool)
      | dict es => have e : (refK σ[m]? k).map V.bool = some x := e; rw [ho] at e; cases e
      | inst es => have e : (refK σ[m]? k).map V.bool = some x := e; rw [ho] at e; cases e
end
end Mine
end

/-! # Ops6 -/
section
set_option autoImplicit false
namespace Mine
open PySem PyProof.Rows
section
variable {S : Stat} {A : Around} {X : List Addr} {f : List Loc} {σ : Sto} {s : Shared} {E : Value → Shared → Prop}
theorem all_sound {a x : V} {va : Value} (hh : A.handled = none) (L : Lk S X f σ s.heap) (e : ev1 .all σ a = some x) (ra : VR S X f s.heap a va) :
    wpAny (model S.prog S.w) A (call (.builtin "all") [va]) (PE S X f s x) E s := by
  delta ev1 at e; dsimp only at e
  cases h1 : listOf? σ a with
  | none => first | (rw [h1] at e; exact zAA e) | simp [h1] at e
  | some xs =>
    cases h2 : bools? xs with
    | none => first | (rw [h1, h2] at e; exact zAA e) | (rw [h1, Option.bind_some, h2] at e; exact zAA e) | simp [h1, h2] at e
    | some l =>
      simp [h1, h2] at e
      subst e
      obtain ⟨p, vs, n, rfl, il, r, _⟩ := zAV L h1 ra
      have hv := bools_at h2 r
      have hlist := IsL.isList il
      have hlt : p < s.heap.objs.size := Heap.lt_size il
      refine call_all_walk (wpAny_pyIter_list hlist ?_)
      refine ⟨s.heap.objs.size, _, _, vs.size, _, _, fun i => (l[i]?).getD true, rfl, Walks.list (A := A.in1) hh s.heap.objs.size p (Nat.ne_of_lt hlt) vs,
        ⟨⟨_, Heap.get?_push_size _ rfl, rfl, rfl⟩, hlist.push _⟩, ?_, fun h' tk k => ?_⟩
      · intro i v s₁ Q E' hP hQ
        rw [← Array.getElem?_toList, hv, List.getElem?_map] at hP
        cases hl : l[i]? with
        | none => rw [hl] at hP; first | exact zAA hP | exact ff_tt hP | cases hP
        | some b => rw [hl] at hP; cases hP; exact wpAny_truthy_bool (by simpa [hl] using hQ)
      · have hz : vs.size = l.length := by rw [← Array.length_toList, hv, List.length_map]
        rw [hz, zEj]
        exact .boolH (old_kept k)
theorem zGb (l : List Str) (x : Str) (ys : List (Str × Tok)) (h : ys.map (·.1) = l) : (ys.map fun p => Value.str p.1 p.2).any (fun y => match y with | .str z _ => z.cps.toList == x.cps.toList | _ => false) = l.contains x := by
  subst h
  induction ys with
  | nil => rfl
  | cons p ps ih =>
    simp only [List.map_cons, List.any_cons, List.contains_cons, ih]
    congr 1
    rw [Bool.eq_iff_iff]
    constructor
    · intro h
      have : p.1.cps.toList = x.cps.toList := beq_iff_eq.mp h
      have : p.1 = x := by cases hp : p.1; cases hx : x; rw [hp, hx] at this; simp at this; rw [this]
      simp [this]
    · intro h
      rw [beq_iff_eq.mp h]; simp
theorem zGW {y : Str} {u : Tok} {xs : List V} {l : List Str} {p : Addr} {vs : Array Value} {n : Nat} (il : IsL s.heap p vs n ∨ IsT s.heap p vs n) (r : VRs S X f s.heap xs vs.toList) (h2 : strs? xs = some l) :
    wpAny (model S.prog S.w) A (compareOp .In (.str y u) (.ref p)) (PE S X f s (.bool (l.contains y))) E s ∧ wpAny (model S.prog S.w) A (compareOp .NotIn (.str y u) (.ref p)) (PE S X f s (.bool !(l.contains y))) E s := by
  obtain ⟨ys, e1, e2, _⟩ := strs_at h2 r
  have hany : vs.any (fun y' => match y' with | .str z _ => z.cps.toList == y.cps.toList | _ => false) = l.contains y := by
    rw [← zGb l y ys e2, ← e1]
    exact (Array.any_toList ..).symm
  have he : ∀ v, v ∈ vs → MeetsSeq.EqGives v (.str y u) (match v with | .str z _ => z.cps.toList == y.cps.toList | _ => false) := by
    intro v hv
    have : v ∈ vs.toList := by simpa using hv
    rw [e1] at this
    obtain ⟨q, _, rfl⟩ := List.mem_map.mp this
    exact SeqRoads2.EqGives.str q.1 y q.2 u
  rcases il with il | il
  · exact ⟨SeqRoads2.in_list _ he il (by rw [hany]; exact .bool0), SeqRoads2.notIn_list _ he il (by rw [hany]; exact .bool0)⟩
  · exact ⟨SeqRoads2.in_tuple _ he il (by rw [hany]; exact .bool0), SeqRoads2.notIn_tuple _ he il (by rw [hany]; exact .bool0)⟩
theorem zGV {x y : Str} {c : Nat} {t u : Tok} (hc : codes x = [c]) :
    wpAny (model S.prog S.w) A (compareOp .In (.str x t) (.str y u)) (PE S X f s (.bool ((codes y).contains c))) E s ∧ wpAny (model S.prog S.w) A (compareOp .NotIn (.str x t) (.str y u)) (PE S X f s (.bool !((codes y).contains c))) E s := by
  have hx : x = ⟨#[c]⟩ := by cases x with | mk a => simp [codes] at hc; rw [show a = #[c] from Array.toList_inj.mp hc]
  subst hx
  have e : (!(Builtin.Str.occurrences y ⟨#[c]⟩ 0 y.length 1).isEmpty) = (codes y).contains c := by
    rw [StrLaws.found_one]
    rw [Bool.eq_iff_iff]; simp [codes]
  exact ⟨PyProof.Rows.in_str (by rw [e]; exact .bool0), PyProof.Rows.notIn_str (by rw [e]; exact .bool0)⟩
noncomputable def PartsAt (S : Stat) (h : Heap) : Prop := S.hasParts = true → ∃ d g, S.parts = .ref d ∧ (d == sysModules) = false ∧ h.MapOf (strKind S.prog S.w) d g ∧ ∀ x, ∃ t, g x = ((partsTable.find? fun p => p.1 == x).map fun p => Value.int p.2 t)
theorem zFj (x : Str) : ((partsTable.find? fun p => p.1 == x).map fun p => p.2).isSome = partsTable.any fun p => p.1 == x := by
  rw [Option.isSome_map, Bool.eq_iff_iff, List.find?_isSome, List.any_eq_true]
theorem zEl {x : Str} {t : Tok} (hp : PartsAt S s.heap) (hh : S.hasParts = true) :
    wpAny (model S.prog S.w) A (compareOp .In (.str x t) S.parts) (PE S X f s (.bool (partsTable.any fun p => p.1 == x))) E s ∧ wpAny (model S.prog S.w) A (compareOp .NotIn (.str x t) S.parts) (PE S X f s (.bool !(partsTable.any fun p => p.1 == x))) E s := by
  obtain ⟨d, g, e, hd, hm, hg⟩ := hp hh
  rw [e]
  obtain ⟨tk, hgx⟩ := hg x
  have hs : (g x).isSome = partsTable.any fun p => p.1 == x := by rw [hgx, ← zFj x, Option.isSome_map, Option.isSome_map]
  have hk : (strKind S.prog S.w).is x (.str x t) = true := by show Value.isStrOf x (.str x t) = true; simp [Value.isStrOf]
  exact ⟨wpAny_in_of hk hd hm (by rw [hs]; exact .bool), wpAny_notIn_of hk hd hm (by rw [hs]; exact .bool)⟩
theorem in_sound {a b : V} {va vb : Value} {r : Bool} (hp : PartsAt S s.heap) (L : Lk S X f σ s.heap) (e : inV σ a b = some r) (ra : VR S X f s.heap a va) (rb : VR S X f s.heap b vb) :
    wpAny (model S.prog S.w) A (compareOp .In va vb) (PE S X f s (.bool r)) E s ∧ wpAny (model S.prog S.w) A (compareOp .NotIn va vb) (PE S X f s (.bool !r)) E s := by
  cases a with
  | str x =>
    obtain ⟨⟨t, rfl⟩, _⟩ := zAY ra
    have gen : ∀ {xs : List V}, itemsOf σ b = some xs → ((strs? xs).map fun l => l.contains x) = some r →
        wpAny (model S.prog S.w) A (compareOp .In (.str x t) vb) (PE S X f s (.bool r)) E s ∧ wpAny (model S.prog S.w) A (compareOp .NotIn (.str x t) vb) (PE S X f s (.bool !r)) E s := by
      intro xs h1 h2
      obtain ⟨p, vs, n, rfl, il, rs, _⟩ := zCl L h1 rb
      cases h3 : strs? xs with
      | none => first | (rw [h3] at h2; exact zAA h2) | simp [h3] at h2
      | some l => rw [h3, Option.map_some, Option.some.injEq] at h2; subst h2; exact zGW il rs h3
    cases b with
    | str y =>
      obtain ⟨⟨u, rfl⟩, _⟩ := zAY rb
      delta inV at e; dsimp only at e
      split at e
      · rename_i c hc; cases e; exact zGV hc
      · first | exact zAA e | exact ff_tt e | cases e
    | parts => rw [VR] at rb; obtain ⟨hh, rfl⟩ := rb; cases e; exact zEl hp hh
    | tup xs => exact gen rfl e
    | lst xs => exact gen rfl e
    | ref k =>
      delta inV at e; dsimp only at e
      cases h1 : itemsOf σ (.ref k) with
      | none => first | (rw [h1] at e; exact zAA e) | simp [h1] at e
      | some xs => simp only [h1, Option.bind_some] at e; exact gen h1 e
    | _ => first | exact zAA e | exact ff_tt e | cases e
  | _ => first | exact zAA e | exact ff_tt e | cases e
theorem zEa {y : Str} {i : Int} {t u : Tok} {k : Nat} {c : Nat} (hl : y.length ≤ LIM) (hok : PyData.strOk y = true) (h1 : normIndex y.length i = some k) (h2 : (codes y)[k]? = some c) :
    wpAny (model S.prog S.w) A (getItem (.str y t) (.int i u)) (PE S X f s (.str (mkS [c]))) E s := by
  obtain ⟨g1, g2, g3, g4⟩ := zBi h1
  have hll := zAo hl
  refine PyProof.Rows.getItem_str (c := c) ?_ ?_ ?_
  · by_cases h0 : 0 ≤ i
    · have := g3 h0; simp; omega
    · have := g4 (by omega); simp; omega
  · rw [g1]; simpa [codes] using h2
  · have hc : c < 0x110000 := by
      have hm : c ∈ y.cps.toList := List.mem_of_getElem? h2
      have := Array.all_eq_true.mp hok
      obtain ⟨j, hj, rfl⟩ := List.getElem_of_mem hm
      have := this j (by simpa using hj)
      simpa using this
    have : PyData.strOk (mkS [c]) = true := by simp [PyData.strOk, mkS, hc]
    exact PE.str (s := s) (by simp [mkS, Str.length]; decide) this
theorem dict_get {h : Heap} {i : Int} {x : V} : ∀ {es : List (Int × V)} {kvs : List (Int × Value)}, ((es.find? fun p => p.1 == i).map fun p => p.2) = some x → kvs.map (·.1) = es.map (·.1) → VRs S X f h (es.map (·.2)) (kvs.map (·.2)) → ∃ v, valueAt kvs i = some v ∧ VR S X f h x v
  | [], _, e, _, _ => zAA e
  | q :: qs, [], _, hk, _ => by cases hk
  | q :: qs, r :: rs, e, hk, hv => by
    simp only [List.map_cons, List.cons.injEq] at hk
    rw [List.map_cons, List.map_cons, VRs] at hv
    rw [List.find?_cons] at e
    unfold valueAt
    rw [List.find?_cons, hk.1]
    by_cases hq : q.1 = i
    · rw [hq, beq_self_eq_true] at e
      rw [hq, decide_eq_true rfl]
      cases e
      exact ⟨_, rfl, hv.1⟩
    · rw [beq_eq_false_iff_ne.mpr hq] at e
      rw [decide_eq_false hq]
      exact dict_get e hk.2 hv.2
inductive IxInv (σ : Sto) (x : V) : V → V → Prop
  | str (y : Str) (i : Int) (k c : Nat) (h4 : normIndex y.length i = some k) (h5 : (codes y)[k]? = some c) (ex : V.str (mkS [c]) = x) : IxInv σ x (.str y) (.int i)
  | seq (a : V) (xs : List V) (i : Int) (k : Nat) (h1 : itemsOf σ a = some xs) (h4 : normIndex xs.length i = some k) (h3 : xs[k]? = some x) : IxInv σ x a (.int i)
  | dict (n : Nat) (es : List (Int × V)) (i : Int) (ho : σ[n]? = some (.dict es)) (h : ((es.find? fun p => p.1 == i).map fun p => p.2) = some x) : IxInv σ x (.ref n) (.int i)
  | parts (y : Str) (h : ((partsTable.find? fun p => p.1 == y).map fun p => V.int p.2) = some x) : IxInv σ x .parts (.str y)
theorem ixSeq {σ : Sto} {a x : V} {xs : List V} {i : Int} (h1 : itemsOf σ a = some xs) (h : ((normIndex xs.length i).bind fun k => xs[k]?) = some x) : IxInv σ x a (.int i) := by
  obtain ⟨k, h4, h3⟩ := Option.bind_eq_some_iff.mp h
  exact .seq a xs i k h1 h4 h3
theorem ixRef {σ : Sto} {n : Nat} {x : V} {i : Int} (e : ev2 .index σ (.ref n) (.int i) = some x) : IxInv σ x (.ref n) (.int i) := by
  delta ev2 at e; dsimp only at e
  cases ho : σ[n]? with
  | none => rw [ho] at e; exact zAA e
  | some ob =>
    rw [ho] at e
    cases ob with
    | list xs => exact ixSeq (xs := xs) (by delta itemsOf; dsimp only; rw [ho]) e
    | dict es => exact .dict n es i ho e
    | inst _ => first | exact zAA e | exact ff_tt e | cases e
theorem ixInv {σ : Sto} {a b x : V} (e : ev2 .index σ a b = some x) : IxInv σ x a b := by
  cases b with
  | int i =>
    cases a with
    | str y =>
      obtain ⟨k, h4, e⟩ := Option.bind_eq_some_iff.mp (show ((normIndex y.length i).bind fun k => (codes y)[k]?.map fun c => V.str (mkS [c])) = some x from e)
      obtain ⟨c, h5, ex⟩ := Option.map_eq_some_iff.mp e
      exact .str y i k c h4 h5 ex
    | ref n => exact ixRef e
    | tup xs => exact ixSeq rfl e
    | lst xs => exact ixSeq rfl e
    | _ => first | exact zAA e | exact ff_tt e | cases e
  | str y =>
    cases a with
    | parts => exact .parts y e
    | _ => first | exact zAA e | exact ff_tt e | cases e
  | _ => cases a <;> exact zAA e
theorem zHA {a b x : V} {va vb : Value} (hp : PartsAt S s.heap) (L : Lk S X f σ s.heap) (e : ev2 .index σ a b = some x) (ra : VR S X f s.heap a va) (rb : VR S X f s.heap b vb) :
    wpAny (model S.prog S.w) A (getItem va vb) (fun v s' => Ext s s' ∧ VR S X f s'.heap x v) E s := by
  have q := ixInv e
  clear e
  cases q with
  | str y i k c h4 h5 ex =>
    obtain ⟨⟨t, rfl⟩, l1, l2⟩ := zAY ra
    obtain ⟨u, rfl⟩ := zAU rb
    subst ex
    exact wpAny_mono (zEa l1 l2 h4 h5) (fun v s' q => ⟨q.1, q.2.1⟩) fun _ _ q => q
  | seq a xs i k h1 h4 h3 =>
    obtain ⟨u, rfl⟩ := zAU rb
    obtain ⟨p, vs, n, rfl, il, rs, l⟩ := zCl L h1 ra
    exact wpAny_mono (zHB il rs l h4 h3) (fun v s' q => by obtain ⟨rfl, q⟩ := q; exact ⟨.refl _, q⟩) fun _ _ q => q
  | dict n es i ho h =>
    obtain ⟨u, rfl⟩ := zAU rb
    rw [VR] at ra
    obtain ⟨l, hl, rfl⟩ := ra
    have ob := L.obj n l _ hl ho
    obtain ⟨p, d⟩ := l
    cases d with
    | some d => exact ob.elim
    | none =>
      obtain ⟨kvs, hd, hk, hv, hlen⟩ := ob
      obtain ⟨v, h1, h2⟩ := dict_get h hk hv
      exact wpAny_getItem_of (knd := intKind S.prog S.w) (k := i) (by show Value.isInt i (.int i u) = true; simp [Value.isInt]) hd.mapOf h1 ⟨.toks s _, h2⟩
  | parts y h =>
    rw [VR] at ra; obtain ⟨hh, rfl⟩ := ra
    obtain ⟨⟨u, rfl⟩, _⟩ := zAY rb
    obtain ⟨d, g, h1, hd, hm, hg⟩ := hp hh
    obtain ⟨tk, hgx⟩ := hg y
    obtain ⟨q, h2, rfl⟩ := Option.map_eq_some_iff.mp h
    rw [h2] at hgx
    rw [h1]
    exact wpAny_getItem_of (knd := strKind S.prog S.w) (k := y) (by show Value.isStrOf y (.str y u) = true; simp [Value.isStrOf]) hm hgx ⟨.toks s _, by rw [VR]; exact ⟨tk, rfl⟩⟩
end
end Mine
end

/-! # OpsS -/
section
set_option autoImplicit false
namespace Mine
open PySem PyProof.Rows Builtin Builtin.Str
theorem zEk (s : String) : PyData.strOk (Str.ofString s) = true := by
  rw [Str.ofString_eq_toList]
  unfold PyData.strOk
  rw [Array.all_eq_true']
  intro c hc
  simp only [List.mem_toArray, List.mem_map] at hc
  obtain ⟨ch, _, rfl⟩ := hc
  have := ch.valid
  simp only [decide_eq_true_eq]
  rcases this with h | h
  · have : ch.toNat < 55296 := h
    omega
  · exact h.2
theorem zDn {x : Str} (h : PyData.strOk x = true) (i j : Nat) : PyData.strOk (strSub x i j) = true := by
  unfold PyData.strOk at h ⊢
  rw [Array.all_eq_true'] at h ⊢
  intro c hc
  refine h c ?_
  have hc : c ∈ x.cps.extract i j := hc
  rw [Array.mem_extract_iff_getElem] at hc
  obtain ⟨k, hk, e⟩ := hc
  exact e ▸ Array.getElem_mem _
section
variable {S : Stat} {A : Around} {X : List Addr} {f : List Loc} {σ : Sto} {s : Shared} {E : Value → Shared → Prop}
theorem lt_pow2 {n k m : Nat} (h : n < 10 ^ k) (hm : 4 * k ≤ m) : n < 2 ^ m :=
  Nat.lt_of_lt_of_le h (Nat.le_trans (Nat.pow_le_pow_left (by decide : 10 ≤ 2 ^ 4) k) (by rw [← Nat.pow_mul]; exact Nat.pow_le_pow_right (by decide) hm))
theorem toStr_sound {a x : V} {va : Value} (e : ev1 .toStr σ a = some x) (ra : VR S X f s.heap a va) : wpAny (model S.prog S.w) A (call (.type "str") [va]) (PE S X f s x) E s := by
  cases a with
  | int i =>
    obtain ⟨t, rfl⟩ := zAU ra
    have e : (if 0 ≤ i ∧ i < 10 ^ 100 then some (V.str (Str.ofString (toString i))) else none) = some x := e
    split at e
    · rename_i hi
      cases e
      refine PySem.P.str_of_int ?_ (.str ?_ (zEk _))
      · by_cases h0 : i.natAbs = 0
        · rw [h0]; decide
        · rw [Nat.log2_lt h0]
          have : i.natAbs < 10 ^ 100 := by omega
          exact lt_pow2 (k := 100) this (by decide)
      · exact Nat.le_trans (toString_length_le hi.1 (k := 100) (by decide) hi.2) (by decide)
    · first | exact zAA e | exact ff_tt e | cases e
  | _ => first | exact zAA e | exact ff_tt e | cases e
theorem zHb {h : Heap} : ∀ {xs : List V} {vs : List Value} {l : List Str}, VRs S X f h xs vs → strs? xs = some l → StrsAre vs l
  | [], [], l, _, e => by cases e; exact .nil
  | x :: xs, v :: vs, l, r, e => by
    rw [VRs] at r
    unfold strs? at e
    rw [List.mapM_cons] at e
    cases x with
    | str y =>
      cases e2 : xs.mapM strOf? with
      | none => rw [e2] at e; cases e
      | some l' =>
        rw [e2] at e
        cases e
        obtain ⟨⟨t, rfl⟩, _⟩ := zAY r.1
        exact .cons y t (zHb r.2 e2)
    | _ => first | exact zAA e | exact ff_tt e | cases e
  | [], _ :: _, _, r, _ => by rw [VRs] at r; exact r.elim
  | _ :: _, [], _, r, _ => by rw [VRs] at r; exact r.elim
theorem zBl : PyData.strOk Str.empty = true := by unfold PyData.strOk Str.empty; simp
theorem zEq {sep : Str} (hs : PyData.strOk sep = true) : ∀ {l : List Str}, (∀ x ∈ l, PyData.strOk x = true) → PyData.strOk (Str.join sep l) = true
  | [], _ => zBl
  | [x], h => h x List.mem_cons_self
  | x :: y :: r, h => by
    show PyData.strOk (x ++ sep ++ Str.join sep (y :: r)) = true
    exact zBT (zBT (h x List.mem_cons_self) hs) (zEq hs fun z hz => h z (List.mem_cons_of_mem _ hz))
theorem strs_ok {h : Heap} : ∀ {xs : List V} {vs : List Value} {l : List Str}, VRs S X f h xs vs → strs? xs = some l → ∀ x ∈ l, PyData.strOk x = true
  | [], [], l, _, e => by cases e; intro x hx; cases hx
  | x :: xs, v :: vs, l, r, e => by
    rw [VRs] at r
    unfold strs? at e
    rw [List.mapM_cons] at e
    cases x with
    | str y =>
      cases e2 : xs.mapM strOf? with
      | none => rw [e2] at e; cases e
      | some l' =>
        rw [e2] at e
        cases e
        obtain ⟨_, _, hk⟩ := zAY r.1
        intro z hz
        rcases List.mem_cons.mp hz with rfl | hz
        · exact hk
        · exact strs_ok r.2 e2 z hz
    | _ => first | exact zAA e | exact ff_tt e | cases e
  | [], _ :: _, _, r, _ => by rw [VRs] at r; exact r.elim
  | _ :: _, [], _, r, _ => by rw [VRs] at r; exact r.elim
theorem join_sound {a b x : V} {va vb : Value} (L : Lk S X f σ s.heap) (e : ev2 .join σ a b = some x) (ra : VR S X f s.heap a va) (rb : VR S X f s.heap b vb) :
    wpAny (model S.prog S.w) A (call (.builtin "str.join") [va, vb]) (PE S X f s x) E s := by
  have e : joinV σ a b = some x := e
  unfold joinV at e
  simp only [Option.bind_eq_some_iff] at e
  obtain ⟨sep, h1, xs, h2, l, h3, e⟩ := e
  split at e
  · rename_i hl
    cases e
    cases a with
    | str y =>
      cases h1
      obtain ⟨⟨t, rfl⟩, _, hk⟩ := zAY ra
      obtain ⟨p, vs, n, rfl, il, rs, _⟩ := zAV L h2 rb
      refine join_list (IsL.isList il) (zHb rs h3) (by omega) fun t' k => .str ?_ ?_
      · show (glued sep l).length ≤ LIM
        rw [StrLaws.glued_eq_join]
        have := StrLaws.join_length_le sep l
        simp only [LIM]; omega
      · show PyData.strOk (glued sep l) = true
        rw [StrLaws.glued_eq_join]
        exact zEq hk (strs_ok rs h3)
    | _ => first | exact zAA h1 | exact ff_tt h1 | cases h1
  · first | exact zAA e | exact ff_tt e | cases e
theorem zHW {h : Heap} {n : Nat} (hn : n ≤ LIM) : ∀ (l : List Str) (t : Tok), (∀ x ∈ l, x.length ≤ n ∧ PyData.strOk x = true) → VRs S X f h (l.map V.str) (strsFrom t l)
  | [], t, _ => by rw [List.map_nil]; show VRs _ _ _ _ [] []; rw [VRs]; trivial
  | x :: l, t, hx => by
    show VRs _ _ _ _ (V.str x :: l.map V.str) (.str x t :: strsFrom (t + 1) l)
    rw [VRs]
    have := hx x List.mem_cons_self
    exact ⟨by rw [VR]; exact ⟨⟨t, rfl⟩, Nat.le_trans this.1 hn, this.2⟩, zHW hn l (t + 1) fun z hz => hx z (List.mem_cons_of_mem _ hz)⟩
theorem strOk_part {x y a : Str} (hx : PyData.strOk x = true) (h : a ∈ Txt.split x y) : PyData.strOk a = true := by
  unfold Txt.split at h
  split at h
  · rw [List.mem_singleton.mp h]; exact hx
  · split at h
    · rw [List.mem_singleton.mp h]; exact hx
    · obtain ⟨p, _, rfl⟩ := List.mem_map.mp h
      exact zDn hx _ _
theorem zDo {x y : Str} : (partsBetween x (occurrences x y 0 x.length (x.length + 1)) y.length).length ≤ x.length + 2 := by
  rw [length_partsBetween]
  have := StrLaws.occ_length_le x y 0 x.length (x.length + 1)
  omega
theorem split_sound {a b x : V} {va vb : Value} (L : Lk S X f σ s.heap) (e : ev2 .split σ a b = some x) (ra : VR S X f s.heap a va) (rb : VR S X f s.heap b vb) :
    wpAny (model S.prog S.w) A (call (.builtin "str.split") [va, vb]) (PE S X f s x) E s := by
  have e : splitV a b = some x := e
  unfold splitV at e
  simp only [Option.bind_eq_some_iff] at e
  obtain ⟨y, h1, z, h2, e⟩ := e
  split at e
  · first | exact zAA e | exact ff_tt e | cases e
  rename_i hc
  simp only [Bool.or_eq_true, not_or, Bool.not_eq_true, decide_eq_true_eq] at hc
  obtain ⟨hz, hl⟩ := hc
  cases e
  cases a <;> cases h1
  cases b <;> cases h2
  obtain ⟨⟨t, rfl⟩, _, hk⟩ := zAY ra
  obtain ⟨⟨u, rfl⟩, _⟩ := zAY rb
  have hyl : y.length ≤ 10000 := by omega
  have hL : (10000 : Nat) ≤ LIM := by decide
  have hS : (10002 : Nat) ≤ sizeLine := by decide
  have hlen : ∀ p ∈ Txt.split y z, p.length ≤ 10000 ∧ PyData.strOk p = true := fun p hp => ⟨Nat.le_trans (part_short hp) hyl, strOk_part hk hp⟩
  have self : VRs S X f s.heap [V.str y] [.str y t] := by rw [VRs, VRs]; exact ⟨ra, trivial⟩
  cases h1 : (decide (y.length < z.length) || decide (strKind y < strKind z))
  · cases hf : (occurrences y z 0 y.length (y.length + 1)).isEmpty
    · have hT : Txt.split y z = partsBetween y (occurrences y z 0 y.length (y.length + 1)) z.length := by unfold Txt.split; rw [if_neg (by rw [h1]; simp), if_neg (by rw [hf]; simp)]
      refine call_meets F.slot_str_split (typeIs_str _ _ _) F.entry_str_split (F.args_str_split_2 _ _) (meets_str_split_sep y z t u h1 hz hf (by omega) (Nat.le_trans zDo (by omega))) ?_
      rw [← hT]
      have hn : (Txt.split y z).length ≤ LIM := by rw [hT]; exact Nat.le_trans zDo (by simp only [LIM]; omega)
      exact zBC (tk := s.toks + (Txt.split y z).length) L (zHW hL _ _ hlen) (by simpa using hn)
    · have hT : Txt.split y z = [y] := by unfold Txt.split; rw [if_neg (by rw [h1]; simp), if_pos hf]
      rw [hT]
      exact call_meets F.slot_str_split (typeIs_str _ _ _) F.entry_str_split (F.args_str_split_2 _ _) (meets_str_split_not_found y z t u h1 hz hf) (zBC (tk := s.toks) L self (by show 1 ≤ LIM; decide))
  · have hT : Txt.split y z = [y] := by unfold Txt.split; rw [if_pos h1]
    rw [hT]
    exact call_meets F.slot_str_split (typeIs_str _ _ _) F.entry_str_split (F.args_str_split_2 _ _) (meets_str_split_cannot_occur y z t u h1) (zBC (tk := s.toks) L self (by show 1 ≤ LIM; decide))
theorem part_sound {a b x : V} {va vb : Value} (L : Lk S X f σ s.heap) (e : ev2 .partition σ a b = some x) (ra : VR S X f s.heap a va) (rb : VR S X f s.heap b vb) :
    wpAny (model S.prog S.w) A (call (.builtin "str.partition") [va, vb]) (PE S X f s x) E s := by
  have e : partV a b = some x := e
  unfold partV at e
  simp only [Option.bind_eq_some_iff] at e
  obtain ⟨y, h1, z, h2, e⟩ := e
  split at e
  · first | exact zAA e | exact ff_tt e | cases e
  rename_i hc
  simp only [Bool.or_eq_true, not_or, Bool.not_eq_true, decide_eq_true_eq] at hc
  obtain ⟨hz, hl⟩ := hc
  cases e
  cases a <;> cases h1
  cases b <;> cases h2
  obtain ⟨⟨t, rfl⟩, ly, hk⟩ := zAY ra
  obtain ⟨⟨u, rfl⟩, lz, hkz⟩ := zAY rb
  have hS : (10002 : Nat) ≤ sizeLine := by decide
  refine call_meets F.slot_str_partition (typeIs_str _ _ _) F.entry_str_partition (F.args_str_partition_2 _ _) (meets_str_partition y z t u hz (by omega)) ?_
  have vs : ∀ (w : Str) (tk : Tok), w.length ≤ LIM → PyData.strOk w = true → VR S X f s.heap (.str w) (.str w tk) := fun w tk h1 h2 => by rw [VR]; exact ⟨⟨tk, rfl⟩, h1, h2⟩
  unfold Txt.partition
  cases occurrences y z 0 y.length 1 with
  | nil =>
    refine zBV (tk := s.toks + 1) L ?_ (by show 3 ≤ LIM; decide)
    rw [VRs, VRs, VRs, VRs]
    exact ⟨ra, vs Str.empty _ (by show 0 ≤ LIM; decide) zBl, vs Str.empty _ (by show 0 ≤ LIM; decide) zBl, trivial⟩
  | cons i r =>
    refine zBV (tk := s.toks + 1 + 1) L ?_ (by show 3 ≤ LIM; decide)
    rw [VRs, VRs, VRs, VRs]
    exact ⟨vs _ _ (Nat.le_trans (strSub_length_le _ _ _) ly) (zDn hk _ _), rb, vs _ _ (Nat.le_trans (strSub_length_le _ _ _) ly) (zDn hk _ _), trivial⟩
end
end Mine
end

/-! # Steps -/
section
set_option autoImplicit false
namespace Mine
open PySem PyProof.Rows
section
variable {M : Model} {A : Around} {E : Value → Shared → Prop} {s : Shared} {env : Env}
theorem zBF {x : Str} {mg : Str → Option Value} {v : Value} {Q : Value → Shared → Prop} (hk : env.scope.kind = .function) (hl : env.kindOf x = some .globalImplicit) (hg : s.heap.Ns env.globals mg) (hv : mg x = some v) (h : Q v s) :
    wpAny M A (loadName env x) Q E s := by
  unfold loadName
  simp only [Env.blockKind, hk, hl, ScopeKind.isAnnotationScope, Bool.false_and, Bool.false_eq_true, if_false]
  unfold loadGlobal
  refine wpAny_bind (wpAny_nsGet hg ?_)
  rw [hv]
  exact wpAny_pure h
theorem zDD {x : Str} {mg mb : Str → Option Value} {v : Value} {Q : Value → Shared → Prop} (hk : env.scope.kind = .function) (hl : env.kindOf x = some .globalImplicit) (hg : s.heap.Ns env.globals mg) (hn : mg x = none)
    (hb : s.heap.Ns env.builtins mb) (hv : mb x = some v) (h : Q v s) : wpAny M A (loadName env x) Q E s := by
  unfold loadName
  simp only [Env.blockKind, hk, hl, ScopeKind.isAnnotationScope, Bool.false_and, Bool.false_eq_true, if_false]
  unfold loadGlobal
  refine wpAny_bind (wpAny_nsGet hg ?_)
  rw [hn]
  refine wpAny_bind (wpAny_nsGet hb ?_)
  rw [hv]
  exact wpAny_pure h
noncomputable def Callable (s : Shared) (f : Value) : Prop := (∀ a, f ≠ .ref a) ∨ ∃ a o fd, f = .ref a ∧ s.heap.get? a = some o ∧ o.data = .func fd
theorem keeper_of {f : Value} {Q : Keeper → Shared → Prop} (hc : Callable s f) (h : ∀ k, (k = .machine ∨ k = .frame) → Q k s) : wpAny M A (keeperOf f) Q E s := by
  unfold keeperOf
  rcases hc with hc | ⟨a, o, fd, rfl, ho, hd⟩
  · cases f with
    | ref a => exact absurd rfl (hc a)
    | _ => exact wpAny_pure (h _ (.inl rfl))
  · refine wpAny_bind (wpAny_load ho ?_)
    rw [hd]
    exact wpAny_pure (h _ (.inr rfl))
theorem zAQ {e : Expr} {r : List Expr} (h : isStar e = false) : starEach (e :: r) env = (false, eval e env) :: starEach r env := by
  cases e <;> first | rfl | exact ff_tt h.symm
theorem zAK {pos : Pos} (args : List Expr) (h : args.any isStar = false) : (backTo pos (starEach args env)).any (·.1) = false := by
  induction args with
  | nil => rfl
  | cons e r ih =>
    have h1 := Bool.or_eq_false_iff.mp ((List.any_cons).symm.trans h)
    rw [zAQ h1.1]
    exact ih h1.2
theorem zBZ {f : Value} {trees : List (Bool × Sem Value)} {Q : Args → Shared → Prop} (hn : trees.any (·.1) = false)
    (h : wpAny M A (spliced trees) (fun vs s' => Q ⟨vs, []⟩ s') E s) : wpAny M A (evalArgs f true trees []) Q E s := by
  cases trees with
  | nil => exact fun Γ p hΓ => (PyProof.Rows.evalArgs_none (show Q ⟨[], []⟩ s from h Γ p hΓ)) Γ p hΓ
  | cons t r =>
    obtain ⟨b, x⟩ := t
    have hb : b = false := by simp only [List.any_cons, Bool.or_eq_false_iff] at hn; exact hn.1
    subst hb
    exact Calls.evalArgs_plain h
theorem zAP {pos : Pos} {f : Value} {first : List Value} {trees : List (Bool × Sem Value)} {Q : Value → Shared → Prop} (hn : trees.any (·.1) = false)
    (h : wpAny M A (spliced trees) (fun vs s₁ => Callable s₁ f ∧ wpAny M A (call f (first ++ vs) []) Q E s₁) E s) : wpAny M A (callWith pos f first trees []) Q E s := by
  unfold callWith
  refine wpAny_bind (wpAny_holding (zBZ hn (wpAny_mono h (fun vs s₁ h₁ => ?_) fun _ _ q => q)))
  refine wpAny_bind (wpAny_standAt ?_)
  simp only [hn, Bool.false_or, List.any_nil]
  have fin : wpAny M A (call f (first ++ vs) []) (fun r s' => wpAny M A (do holding [r] point; pure r) Q E s') E s₁ := wpAny_mono h₁.2 (fun r s' q => wpAny_bind (wpAny_holding (wpAny_point (wpAny_pure q)))) fun _ _ q => q
  refine wpAny_bind (keeper_of h₁.1 fun k hk => ?_)
  rcases hk with rfl | rfl
  · exact wpAny_bind fin
  · show wpAny M A (if trees.length + 2 * 0 > 30 then (call f (first ++ vs) [] >>= fun r => do holding [r] point; pure r) else (callMarked plainCall f (first ++ vs) [] >>= fun r => do holding [r] point; pure r)) Q E s₁
    split
    · exact wpAny_bind fin
    · exact wpAny_bind (Calls.wpAny_keep fin)
theorem zAs {o : Expr} {name : Str} (h : noSuper o = true) : attributeBase o name env (eval o env) = eval o env := by
  cases o with
  | Call fn args kws pos =>
    cases fn with
    | Name id p =>
      cases args with
      | nil =>
        cases kws with
        | nil => first | exact zAA h | exact ff_tt h | cases h
        | cons _ _ => rfl
      | cons _ _ => rfl
    | _ => rfl
  | _ => rfl
end
end Mine
end

/-! # Mut -/
section
set_option autoImplicit false
namespace Mine
open PySem PyProof.Rows
section
variable {S : Stat} {X Y : List Addr} {f g : List Loc} {σ : Sto} {s s' : Shared}
theorem nodup_at {f : List Loc} (h : (addrs f).Nodup) {i j : Nat} {l l' : Loc} (hi : f[i]? = some l) (hj : f[j]? = some l') (hne : i ≠ j) : ∀ a ∈ l.addrs, a ∉ l'.addrs := by
  induction f generalizing i j with
  | nil => simp at hi
  | cons x f ih =>
    have h1 : (x.addrs ++ addrs f).Nodup := by simpa [addrs] using h
    obtain ⟨_, h2, h3⟩ := List.nodup_append.mp h1
    cases i with
    | zero =>
      cases j with
      | zero => exact absurd rfl hne
      | succ j =>
        simp at hi hj
        subst hi
        intro a ha hb
        exact h3 a ha a (zAX hj hb) rfl
    | succ i =>
      cases j with
      | zero =>
        simp at hi hj
        subst hj
        intro a ha hb
        exact h3 a hb a (zAX hi ha) rfl
      | succ j =>
        simp at hi hj
        exact ih h2 hi hj (by omega)
theorem Lk.upd {n : Nat} {l : Loc} {o' : O} {h' : Heap} (L : Lk S X f σ s.heap) (hn : f[n]? = some l) (hs : ∀ b o, b ∉ l.addrs → s.heap.get? b = some o → h'.get? b = some o) (ho : OR S X f h' l o') : Lk S X f (σ.set n o') h' := by
  have nb : ∀ b o, b ∉ addrs f → s.heap.get? b = some o → h'.get? b = some o := fun b o hb => hs b o fun q => hb (zAX hn q)
  have kv : ∀ x v, VR S X f s.heap x v → VR S X f h' x v := VR.keep (fun _ _ e => e) fun a o q h1 h2 => ⟨⟨h1, h2⟩, o, nb a o h1 q, .refl o⟩
  have kvs : ∀ x v, VRs S X f s.heap x v → VRs S X f h' x v := VRs.keep (fun _ _ e => e) fun a o q h1 h2 => ⟨⟨h1, h2⟩, o, nb a o h1 q, .refl o⟩
  refine ⟨fun b o e => ?_, by rw [List.length_set]; exact L.len, L.nodup, L.fresh, fun a ha => ?_, fun i l' o hi hoo => ?_⟩
  · exact nb b o (fun q => by rw [L.fresh b q] at e; cases e) (L.base b o e)
  · obtain ⟨h1, h2, o, h3⟩ := L.hid a ha
    exact ⟨h1, h2, o, nb a o h2 h3⟩
  · by_cases hin : i = n
    · subst hin
      rw [hn] at hi; cases hi
      have hlt : i < σ.length := L.len ▸ (List.getElem?_eq_some_iff.mp hn).1
      rw [List.getElem?_set_self hlt] at hoo
      cases hoo
      exact ho
    · rw [List.getElem?_set_ne (fun q => hin q.symm)] at hoo
      refine (L.obj i l' o hi hoo).keep kv kvs fun a ha => ?_
      obtain ⟨ob, e⟩ := (L.obj i l' o hi hoo).live a ha
      rw [e, hs a ob (fun q => nodup_at L.nodup hi hn hin a ha q) e]
theorem Kp.upd {n : Nat} {l : Loc} {h' : Heap} {t : Nat} (hn : f[n]? = some l) (hs : ∀ b o, b ∉ l.addrs → s.heap.get? b = some o → h'.get? b = some o) (hl : ∀ a ∈ l.addrs, ∃ o, h'.get? a = some o) : Kp f Y s { s with heap := h', toks := t } := by
  have nb : ∀ b o, b ∉ addrs f → s.heap.get? b = some o → h'.get? b = some o := fun b o hb => hs b o fun q => hb (zAX hn q)
  refine ⟨rfl, fun a o e => ?_, fun a o e h1 _ => ⟨o, nb a o h1 e, .refl o⟩, fun a o es k e d h1 => ⟨o, es, k, nb a o h1 e, d⟩⟩
  by_cases ha : a ∈ l.addrs
  · exact hl a ha
  · exact ⟨o, hs a o ha e⟩
theorem Lk.track {l : Loc} {o : O} {h : Heap} (L : Lk S (l.addrs ++ X) f σ h) (hnd : l.addrs.Nodup) (hX : ∀ a ∈ l.addrs, a ∉ X) (ho : OR S X (f ++ [l]) h l o) : Lk S X (f ++ [l]) (σ ++ [o]) h := by
  have hdis : ∀ a ∈ l.addrs, a ∉ addrs f := fun a ha => (L.hid a (List.mem_append_left _ ha)).2.1
  have hl : addrs [l] = l.addrs := by simp [addrs]
  have kf : ∀ (i : Nat) (l' : Loc), f[i]? = some l' → (f ++ [l])[i]? = some l' := fun i l' e => List.getElem?_append_left (List.getElem?_eq_some_iff.mp e).1 ▸ e
  have kh : ∀ a ob, h.get? a = some ob → a ∉ addrs f → a ∉ l.addrs ++ X → (a ∉ addrs (f ++ [l]) ∧ a ∉ X) ∧ ∃ o', h.get? a = some o' ∧ SameObj ob o' := fun a ob q h1 h2 =>
    ⟨⟨fun h3 => (zAE.mp h3).elim h1 fun h4 => h2 (List.mem_append_left _ (hl ▸ h4)), fun h3 => h2 (List.mem_append_right _ h3)⟩, ob, q, .refl ob⟩
  refine ⟨L.base, by simp [L.len], ?_, fun a ha => ?_, fun a ha => ?_, fun i l' o' hi ho' => ?_⟩
  · rw [zDG, hl]
    exact List.nodup_append.mpr ⟨L.nodup, hnd, fun a ha b hb e => hdis b hb (e ▸ ha)⟩
  · rcases zAE.mp ha with ha | ha
    · exact L.fresh a ha
    · exact (L.hid a (List.mem_append_left _ (hl ▸ ha))).1
  · obtain ⟨h1, h2, h3⟩ := L.hid a (List.mem_append_right _ ha)
    exact ⟨h1, fun q => (zAE.mp q).elim h2 fun q => hX a (hl ▸ q) ha, h3⟩
  · by_cases hlt : i < f.length
    · rw [List.getElem?_append_left hlt] at hi
      rw [List.getElem?_append_left (L.len ▸ hlt)] at ho'
      exact (L.obj i l' o' hi ho').keep (VR.keep kf kh) (VRs.keep kf kh) fun _ _ => rfl
    · have hi' : i = f.length := by
        have := (List.getElem?_eq_some_iff.mp hi).1
        simp at this; omega
      subst hi'
      rw [List.getElem?_append_right (Nat.le_refl _)] at hi
      rw [L.len, List.getElem?_append_right (Nat.le_refl _)] at ho'
      simp at hi ho'
      subst hi ho'
      exact ho
theorem Lk.hideNew {a : Addr} (L : Lk S X f σ s.heap) (e : Ext s s') (hn : s.heap.get? a = none) {o : Obj} (hl : s'.heap.get? a = some o) : Lk S (a :: X) f σ s'.heap := by
  have hb : S.hb.get? a = none := by
    cases q : S.hb.get? a with
    | none => rfl
    | some o => rw [L.base a o q] at hn; first | exact zAA hn | exact ff_tt hn | cases hn
  have kv : ∀ x v, VR S X f s.heap x v → VR S (a :: X) f s'.heap x v := VR.keep (fun _ _ e => e) fun b ob q h1 h2 =>
    ⟨⟨h1, fun h => (List.mem_cons.mp h).elim (fun h => by subst h; rw [hn] at q; cases q) h2⟩, ob, e.keep b ob q, .refl ob⟩
  have kvs : ∀ x v, VRs S X f s.heap x v → VRs S (a :: X) f s'.heap x v := VRs.keep (fun _ _ e => e) fun b ob q h1 h2 =>
    ⟨⟨h1, fun h => (List.mem_cons.mp h).elim (fun h => by subst h; rw [hn] at q; cases q) h2⟩, ob, e.keep b ob q, .refl ob⟩
  have L' := e.lk L
  refine ⟨L'.base, L'.len, L'.nodup, L'.fresh, fun b hb' => ?_, fun i l ob hi ho => (L.obj i l ob hi ho).keep kv kvs fun b hb' => ?_⟩
  · rcases List.mem_cons.mp hb' with rfl | hb'
    · exact ⟨hb, (L.new hn).1, o, hl⟩
    · exact L'.hid b hb'
  · obtain ⟨ob', q⟩ := L.live (zAX hi hb')
    rw [q]; exact e.keep b ob' q
theorem VRs.hideNew {a : Addr} (e : Ext s s') (hn : s.heap.get? a = none) {xs : List V} {vs : List Value} (r : VRs S X f s.heap xs vs) : VRs S (a :: X) f s'.heap xs vs :=
  VRs.keep (fun _ _ e => e) (fun b ob q h1 h2 => ⟨⟨h1, fun h => (List.mem_cons.mp h).elim (fun h => by subst h; rw [hn] at q; cases q) h2⟩, ob, e.keep b ob q, .refl ob⟩) xs vs r
theorem Lk.less {X' : List Addr} {h : Heap} (L : Lk S X f σ h) (hX : ∀ a ∈ X', a ∈ X) : Lk S X' f σ h :=
  ⟨L.base, L.len, L.nodup, L.fresh, fun a ha => L.hid a (hX a ha), fun i l o hi ho => (L.obj i l o hi ho).keep (fun _ _ => VR.less hX) (fun _ _ => VRs.less hX) fun _ _ => rfl⟩
theorem Lk.enter {X N : List Addr} {f : List Loc} {σ : Sto} {s s₁ : Shared} (L : Lk S X f σ s.heap) (hk : ∀ b o, s.heap.get? b = some o → s₁.heap.get? b = some o)
    (hN : ∀ a ∈ N, s.heap.get? a = none ∧ ∃ o, s₁.heap.get? a = some o) : Lk S (N ++ X) f σ s₁.heap := by
  have kv : ∀ x v, VR S X f s.heap x v → VR S (N ++ X) f s₁.heap x v := fun x v e =>
    VR.keep (fun _ _ e => e) (fun a o ho h1 h2 => ⟨⟨h1, fun h => (List.mem_append.mp h).elim (fun h => by rw [(hN a h).1] at ho; cases ho) h2⟩, o, hk a o ho, .refl o⟩) x v e
  have kvs : ∀ x v, VRs S X f s.heap x v → VRs S (N ++ X) f s₁.heap x v := fun x v e =>
    VRs.keep (fun _ _ e => e) (fun a o ho h1 h2 => ⟨⟨h1, fun h => (List.mem_append.mp h).elim (fun h => by rw [(hN a h).1] at ho; cases ho) h2⟩, o, hk a o ho, .refl o⟩) x v e
  refine ⟨fun b o h => hk b o (L.base b o h), L.len, L.nodup, L.fresh, fun a ha => ?_, fun i l o hi ho => (L.obj i l o hi ho).keep kv kvs fun a ha => ?_⟩
  · rcases List.mem_append.mp ha with h | h
    · refine ⟨?_, fun hf => ?_, (hN a h).2⟩
      · cases e : S.hb.get? a with
        | none => rfl
        | some o => have := L.base a o e; rw [(hN a h).1] at this; cases this
      · obtain ⟨o, e⟩ := L.live hf; rw [(hN a h).1] at e; cases e
    · obtain ⟨h1, h2, o, h3⟩ := L.hid a h
      exact ⟨h1, h2, o, hk a o h3⟩
  · obtain ⟨o', e⟩ := (L.obj i l o hi ho).live a ha
    rw [e, hk a o' e]
theorem ExcR.less {X' : List Addr} {h h₀ : Heap} {ea : Addr} {k : Cls} (e : ExcR S X f σ h h₀ ea k) (hX : ∀ a ∈ X', a ∈ X) : ExcR S X' f σ h h₀ ea k := by
  obtain ⟨e1, ec, hs, oe, vs, L, e4, e5, e6, e8⟩ := e
  exact ⟨e1, ec, hs, oe, vs, L.less fun a ha => (List.mem_append.mp ha).elim (fun h => List.mem_append_left _ h) fun h => List.mem_append_right _ (hX a h), e4, e5, e6, e8⟩
inductive NewQ (S : Stat) (X : List Addr) (f : List Loc) (σ : Sto) (s s' : Shared) (xs : List V) (v : Value) : Prop where
  | mk (a : Addr) (vs : Array Value) (n : Nat) (e : v = .ref a) (hn : s.heap.get? a = none) (hX : a ∉ X) (L : Lk S (a :: X) f σ s'.heap) (il : IsL s'.heap a vs n) (rs : VRs S (a :: X) f s'.heap xs vs.toList) (hl : xs.length ≤ LIM)
inductive QN (S : Stat) (X Y : List Addr) (f : List Loc) (s : Shared) (r : R V) (v : Value) (s' : Shared) : Prop where
  | mk (x : V) (σ' : Sto) (g : List Loc) (e : r = .ok x σ') (hg : Fresh g s) (k : Kp f Y s s') (L : Lk S X (f ++ g) σ' s'.heap) (p : VR S X (f ++ g) s'.heap x v) (hl : ∀ xs, x = .lst xs → NewQ S X (f ++ g) σ' s s' xs v)
theorem QN.qs {r : R V} {v : Value} (q : QN S X Y f s r v s') : QS S X Y f (PV S X) s r v s' := by
  obtain ⟨x, σ', g, e, hg, k, L, p, _⟩ := q
  exact ⟨x, σ', g, e, hg, k, L, p⟩
theorem QN.trk {r : R V} {v : Value} (hne : (r.bind fun v σ => doTrk σ v) ≠ .stuck) (q : QN S X Y f s r v s') : QS S X Y f (PV S X) s (r.bind fun v σ => doTrk σ v) v s' := by
  obtain ⟨x, σ', g, rfl, hg, k, L, p, hl⟩ := q
  cases x with
  | lst xs =>
    obtain ⟨a, vs, n, rfl, hn, hX, L', il, r, hlen⟩ := hl xs rfl
    refine ⟨.ref σ'.length, σ' ++ [.list xs], g ++ [(a, none)], rfl, ?_, k, ?_, ?_⟩
    · intro b hb
      rcases zAE.mp hb with hb | hb
      · exact hg b hb
      · have : b = a := by simpa [addrs, Loc.addrs] using hb
        rw [this]; exact hn
    · rw [← List.append_assoc]
      refine Lk.track (l := (a, none)) (X := X) L' (by simp [Loc.addrs]) (fun b hb => by have : b = a := by simpa [Loc.addrs] using hb
                                                                                         rw [this]; exact hX) ⟨vs, n, il, ?_, hlen⟩
      refine VRs.keep (fun i l' e => List.getElem?_append_left (List.getElem?_eq_some_iff.mp e).1 ▸ e) (fun b ob q h1 h2 => ⟨⟨fun h3 => ?_, fun h3 => h2 (List.mem_cons_of_mem _ h3)⟩, ob, q, .refl ob⟩) xs vs.toList r
      rcases zAE.mp h3 with h3 | h3
      · exact h1 h3
      · have : b = a := by simpa [addrs, Loc.addrs] using h3
        exact h2 (this ▸ List.mem_cons_self)
    · show VR S X (f ++ (g ++ [(a, none)])) s'.heap (.ref σ'.length) (.ref a)
      rw [VR]
      refine ⟨(a, none), ?_, rfl⟩
      rw [← List.append_assoc, ← L.len, List.getElem?_append_right (Nat.le_refl _)]
      simp
  | _ => exact absurd rfl hne
theorem PE.qn {s₁ : Shared} {x : V} {v : Value} (hg : Fresh g s) (k : Kp f Y s s₁) (L : Lk S X (f ++ g) σ s₁.heap) (p : PE S X (f ++ g) s₁ x v s') : QN S X Y f s (.ok x σ) v s' := by
  obtain ⟨e, r, hl⟩ := p
  refine ⟨x, σ, g, rfl, hg, k.trans hg (e.kp _ _), e.lk L, r, fun xs hx => ?_⟩
  obtain ⟨a, vs, n, e1, e2, e3, e4, e5⟩ := hl xs hx
  refine ⟨a, vs, n, e1, zAS k.live e2, (L.new e2).2, L.hideNew e e2 e3, e3, ?_, e5⟩
  exact VRs.hideNew e e2 e4
end
end Mine
end

/-! # Frame -/
section
set_option autoImplicit false
namespace Mine
open PySem PyProof.Rows
noncomputable def isCellKind (k : Option NameKind) : Prop := k = some .cell ∨ k = some .free
noncomputable def NameIs (env : Env) (h : Heap) (x : Str) (w : Value) : Prop :=
  (env.kindOf x = some .local ∧ ∃ m, h.Ns env.locals m ∧ m x = some w) ∨ (isCellKind (env.kindOf x) ∧ ∃ c, env.cells.lookup x = some c ∧ h.IsCell c (some w))
structure FR (S : Stat) (X : List Addr) (f : List Loc) (h : Heap) (env : Env) (Γ : List Str) (sc : Scope) (ρ : List V) : Prop where
  kind : env.scope.kind = .function
  glob : env.globals = mainGlobals
  blt : env.builtins = builtinsNs
  names : ∀ x, env.kindOf x = sc.names.lookup x ∨ (sc.names.lookup x = some .free ∧ env.kindOf x = some .cell)
  loc : env.locals ∈ X ∧ ∃ m, h.Ns env.locals m
  cells : ∀ x, isCellKind (env.kindOf x) → ∃ c o, env.cells.lookup x = some c ∧ c ∈ X ∧ h.IsCell c o
  vals : ∀ x i v, isVar sc x = true → lastIdx x Γ = some i → ρ[i]? = some v → v ≠ .undef → ∃ w, NameIs env h x w ∧ VR S X f h v w
  len : ρ.length = Γ.length
noncomputable def FrL (S : Stat) (f : List Loc) (h : Heap) (l : List Env) : Prop :=
  ∀ e ∈ l, e.scope.kind ≠ .module ∧ ∃ L o es n, e.frame = some L ∧ S.hb.get? L = none ∧ L ∉ addrs f ∧ h.get? L = some o ∧ o.data = .dict es n
structure Cx (S : Stat) (A : Around) (q : Bool) (d : Nat) (f : List Loc) (h : Heap) (fr : Option Addr) : Prop where
  depth : A.depth + 2 * d + 3 ≤ 900
  units : A.units + 5 * d + 202 ≤ 9900
  hand : q = false → A.handled = none
  frs : ∃ e0 l, A.frames = some (e0 :: l) ∧ e0.frame = fr ∧ FrL S f h (e0 :: l)
structure CxC (S : Stat) (A : Around) (q : Bool) (d : Nat) (f : List Loc) (h : Heap) : Prop where
  depth : A.depth + 2 * d + 2 ≤ 900
  units : A.units + 5 * d + 200 ≤ 9900
  hand : q = false → A.handled = none
  frs : ∃ l, A.frames = some l ∧ FrL S f h l
theorem Cx.call {S : Stat} {A : Around} {q : Bool} {d : Nat} {f : List Loc} {h : Heap} {fr : Option Addr} (c : Cx S A q d f h fr) : CxC S A q d f h :=
  ⟨by have := c.depth; omega, by have := c.units; omega, c.hand, let ⟨e0, l, h1, _, h3⟩ := c.frs; ⟨e0 :: l, h1, h3⟩⟩
section
variable {S : Stat} {A : Around} {X Y : List Addr} {f g : List Loc} {s s' : Shared} {env : Env} {Γ : List Str} {sc : Scope} {ρ : List V} {q : Bool} {d : Nat} {fr : Option Addr}
theorem kp_ns {a : Addr} {m : Str → Option Value} (k : Kp f Y s s') (hf : a ∉ addrs f) (hY : a ∉ Y) (h : s.heap.Ns a m) : s'.heap.Ns a m := by
  obtain ⟨o, es, ep, ho, hd, r⟩ := h
  obtain ⟨o', ho', e⟩ := k.kept a o ho hf hY
  exact ⟨o', es, ep, ho', e.data.trans hd, r⟩
theorem zGw {a : Addr} {m : Option Value} (k : Kp f Y s s') (hf : a ∉ addrs f) (hY : a ∉ Y) (h : s.heap.IsCell a m) : s'.heap.IsCell a m := by
  obtain ⟨o, ho, hd⟩ := h
  obtain ⟨o', ho', e⟩ := k.kept a o ho hf hY
  exact ⟨o', ho', e.data.trans hd⟩
theorem NameIs.keep {x : Str} {w : Value} (k : Kp f Y s s') (hl : env.locals ∉ addrs f ∧ env.locals ∉ Y) (hc : ∀ x c, env.cells.lookup x = some c → isCellKind (env.kindOf x) → c ∉ addrs f ∧ c ∉ Y) (h : NameIs env s.heap x w) : NameIs env s'.heap x w := by
  rcases h with ⟨h1, m, h2, h3⟩ | ⟨h1, c, h2, h3⟩
  · exact .inl ⟨h1, m, kp_ns k hl.1 hl.2 h2, h3⟩
  · exact .inr ⟨h1, c, h2, zGw k (hc x c h2 h1).1 (hc x c h2 h1).2 h3⟩
theorem FR.keep {σ : Sto} (F : FR S X f s.heap env Γ sc ρ) (L : Lk S X f σ s.heap) (k : Kp f [] s s') (hg : Fresh g s) : FR S X (f ++ g) s'.heap env Γ sc ρ := by
  have hl : env.locals ∉ addrs f := (L.hid _ F.loc.1).2.1
  have hc : ∀ x c, env.cells.lookup x = some c → isCellKind (env.kindOf x) → c ∉ addrs f := fun x c e hk => by
    obtain ⟨c', o, e', hX, _⟩ := F.cells x hk
    rw [e] at e'; cases e'
    exact (L.hid c hX).2.1
  refine ⟨F.kind, F.glob, F.blt, F.names, ⟨F.loc.1, let ⟨m, h⟩ := F.loc.2; ⟨m, kp_ns k hl (by simp) h⟩⟩, fun x hx => ?_, fun x i v h1 h2 h3 h4 => ?_, F.len⟩
  · obtain ⟨c, o, e, hX, h⟩ := F.cells x hx
    exact ⟨c, o, e, hX, zGw k (hc x c e hx) (by simp) h⟩
  · obtain ⟨w, h5, h6⟩ := F.vals x i v h1 h2 h3 h4
    exact ⟨w, h5.keep k ⟨hl, by simp⟩ fun x c e hk => ⟨hc x c e hk, by simp⟩, h6.keepK k hg fun a ha => nomatch ha⟩
theorem FrL.keep {l : List Env} (F : FrL S f s.heap l) (k : Kp f Y s s') (hg : Fresh g s) : FrL S (f ++ g) s'.heap l := fun e he => by
  obtain ⟨h1, L, o, es, n, h2, h3, h4, h5, h6⟩ := F e he
  obtain ⟨o', es', n', h7, h8⟩ := k.dicts L o es n h5 h6 h4
  exact ⟨h1, L, o', es', n', h2, h3, fun h => (zAE.mp h).elim h4 (zAN hg h5), h7, h8⟩
theorem Cx.keep (c : Cx S A q d f s.heap fr) (k : Kp f Y s s') (hg : Fresh g s) : Cx S A q d (f ++ g) s'.heap fr :=
  ⟨c.depth, c.units, c.hand, let ⟨e0, l, h1, h2, h3⟩ := c.frs; ⟨e0, l, h1, h2, h3.keep k hg⟩⟩
end
inductive BookAt (S : Stat) (C : Ctx) : Prop where
  | mk (N : Addr) (mN : Str → Option Value) (nm q : Str) (bs : List Value) (sn : List Str) (sub : List Value) (col : Option Bool) (dd : Option Addr) (k0 k1 k2 k3 k5 : Option Value)
      (hC : S.hb.get? S.book = some (excClassObj nm q S.book N bs [.type "object"] true sn sub false col dd k0 k1 k2 k3 k5 "object.__new__")) (hN : S.hb.Ns N mN)
      (hq : mN "__getattribute__" = none ∧ mN "__getattr__" = none ∧ mN "__setattr__" = none ∧ mN (attrName 0) = none ∧ mN (attrName 1) = none) (hini : mN "__init__" = some (.ref (S.fn 0))) (h0 : ∃ o, S.hb.get? (S.fn 0) = some o ∧ o.cls = .type "function")
      (hms : ∀ m k, C.meths.lookup m = some k → mN m = some (.ref (S.fn k)) ∧ ∃ o, S.hb.get? (S.fn k) = some o ∧ o.cls = .type "function")
inductive GF (S : Stat) (C : Ctx) : Prop where
  | mk (mg mb : Str → Option Value) (g1 : S.hb.Ns mainGlobals mg) (g2 : S.hb.Ns builtinsNs mb)
      (g3 : ∀ x v, C.consts.lookup x = some v → ∃ w, mg x = some w ∧ VR S [] [] S.hb v w)
      (g4 : ∀ x k, C.fns.lookup x = some k → mg x = some (.ref (S.fn k)))
      (g5 : ∀ x : Str, (x ∈ b1Names.map (·.1) ∨ x ∈ b2Names.map (·.1) ∨ x ∈ kindNames.map (·.1) ∨ x = ("isinstance" : Str) ∨ x = ("range" : Str)) → C.fns.lookup x = none → mg x = none ∧ mb x = bootBuiltins x)
      (g6 : C.book = true → mg "Book" = some (.ref S.book))
      (g7 : ∀ x c, C.excs.lookup x = some c → (mg x = some (S.cl c)) ∨ (mg x = none ∧ mb x = some (S.cl c)))
structure Facts (S : Stat) (C : Ctx) (T : Nat → Option Fn) : Prop where
  g : GF S C
  nolimit : S.hb.NoLimit
  book : (C.book = false ∧ C.meths = [] ∧ C.attrs = []) ∨ (C.attrs = attrNames ∧ BookAt S C)
  exc : ∀ x c, C.excs.lookup x = some c → c ∈ S.kn ∧ (x ≠ ("ValueError" : Str) → ExcCl S c)
  parts : PartsAt S S.hb
  pnn : S.parts ≠ .none
  fnObj : ∀ k fn, T k = some fn → ∃ o fd, S.hb.get? (S.fn k) = some o ∧ o.data = .func fd
section
variable (S : Stat) (C : Ctx) (F : Calls) (q : Bool) (d : Nat)
noncomputable def FS : Prop := ∀ (k : Nat) (vs : List V) (σ : Sto) (f : List Loc) (X : List Addr) (A : Around) (s : Shared) (vals : List Value), CxC S A q d f s.heap → Lk S X f σ s.heap → VRs S X f s.heap vs vals →
  F k vs σ ≠ .stuck → (∃ o fd, S.hb.get? (S.fn k) = some o ∧ o.data = .func fd) ∧
    codeAny (model S.prog S.w) A (.call (.ref (S.fn k)) ⟨vals, []⟩) (fun r s' => match r with | .ok (.ret v) => QS S X [] f (PV S X) s (F k vs σ) v s' | .ok _ => False | .error e => ES S X [] f false s (F k vs σ) e s') s
structure St (Γ : List Str) (sc : Scope) (env : Env) (ρ : List V) (f : List Loc) (X : List Addr) (σ : Sto) (s : Shared) (A : Around) : Prop where
  cx : Cx S A q d f s.heap env.frame
  fr : FR S X f s.heap env Γ sc ρ
  lk : Lk S X f σ s.heap
noncomputable def EOk (Γ : List Str) (sc : Scope) (e : Expr) (c : CE) : Prop := ∀ (env : Env) (ρ : List V) (f : List Loc) (X : List Addr) (σ : Sto) (s : Shared) (A : Around), St S q d Γ sc env ρ f X σ s A →
  Sim S A X [] f (PV S X) (eval e env) (evE F q c ρ σ) s
noncomputable def NOk (Γ : List Str) (sc : Scope) (e : Expr) (c : CE) : Prop := ∀ (env : Env) (ρ : List V) (f : List Loc) (X : List Addr) (σ : Sto) (s : Shared) (A : Around), St S q d Γ sc env ρ f X σ s A →
  evE F q c ρ σ ≠ .stuck → wpAny (model S.prog S.w) A (eval e env) (QN S X [] f s (evE F q c ρ σ)) (ES S X [] f false s (evE F q c ρ σ)) s
noncomputable def LOk (Γ : List Str) (sc : Scope) (es : List Expr) (cs : List CE) : Prop := es.any isStar = false ∧ ∀ (env : Env) (pos : Pos) (ρ : List V) (f : List Loc) (X : List Addr) (σ : Sto) (s : Shared) (A : Around), St S q d Γ sc env ρ f X σ s A →
  Sim S A X [] f (fun vs xs f s => VRs S X f s.heap xs vs) (spliced (backTo pos (starEach es env))) (evL F q cs ρ σ) s
noncomputable def TOk (Γ : List Str) (sc : Scope) (e : Expr) (c : CE) : Prop := ∀ (env : Env) (ρ : List V) (f : List Loc) (X : List Addr) (σ : Sto) (s : Shared) (A : Around), St S q d Γ sc env ρ f X σ s A →
  Sim S A X [] f (fun b t _ _ => b = t) (isTrue e env (eval e env)) ((evE F q c ρ σ).bind fun v σ => R.lift σ (truthy σ v)) s
end
theorem FR.isGlob {S : Stat} {X : List Addr} {f : List Loc} {h : Heap} {env : Env} {Γ : List Str} {sc : Scope} {ρ : List V} (fr : FR S X f h env Γ sc ρ) {x : Str} (hg : isGlob sc x = true) : env.kindOf x = some .globalImplicit := by
  have h : sc.names.lookup x = some .globalImplicit := by simpa [Mine.isGlob] using hg
  rcases fr.names x with e | ⟨e, _⟩
  · exact e.trans h
  · rw [h] at e; first | exact zAA e | exact ff_tt e | cases e
section
variable {S : Stat} {C : Ctx} {F : Calls} {q : Bool} {d : Nat} {Γ : List Str} {sc : Scope}
theorem St.keep {env : Env} {ρ : List V} {f g : List Loc} {X : List Addr} {σ σ' : Sto} {s s' : Shared} {A : Around} (st : St S q d Γ sc env ρ f X σ s A) (hg : Fresh g s) (k : Kp f [] s s') (L : Lk S X (f ++ g) σ' s'.heap) : St S q d Γ sc env ρ (f ++ g) X σ' s' A :=
  ⟨st.cx.keep k hg, st.fr.keep st.lk k hg, L⟩
theorem NOk.eok {e : Expr} {c : CE} (h : NOk S F q d Γ sc e c) : EOk S F q d Γ sc e c := fun env ρ f X σ s A st hne => wpAny_mono (h env ρ f X σ s A st hne) (fun _ _ x => x.qs) fun _ _ x => x
theorem NOk.trk {e : Expr} {c : CE} (h : NOk S F q d Γ sc e c) : EOk S F q d Γ sc e (.trk c) := fun env ρ f X σ s A st hne => by
  have hr : evE F q c ρ σ ≠ .stuck := fun e => hne (by rw [x_trk, e]; rfl)
  rw [x_trk] at hne ⊢
  refine wpAny_mono (h env ρ f X σ s A st hr) (fun _ _ x => x.trk hne) fun e s' x => ?_
  obtain ⟨k, σ', g, ea, e1, e2, hgE, kE, LE, xE⟩ := x
  exact ⟨k, σ', g, ea, e1, by rw [e2]; rfl, hgE, kE, LE, xE⟩
theorem zBw {e : Expr} {c : CE} {p : Pos} (h : NOk S F q d Γ sc e c) : EOk S F q d Γ sc e (trkAt C p c) := by
  unfold trkAt; split
  · exact h.trk
  · exact h.eok
noncomputable def Lifts {γ δ : Type} (Y : List Addr) (K : List Loc → Shared → R δ → γ → Shared → Prop) : Prop := ∀ f g s s₁ r c s', Fresh g s → Kp f Y s s₁ → K (f ++ g) s₁ r c s' → K f s r c s'
theorem QS.lifts {α β : Type} {X Y : List Addr} {P : α → β → List Loc → Shared → Prop} : Lifts Y (fun f s r a s' => QS S X Y f P s r a s') := fun f g s s₁ r c s' hg k q => by
  obtain ⟨b', σ'', g', e, hg', k', L, p⟩ := q
  rw [List.append_assoc] at L p
  exact ⟨b', σ'', g ++ g', e, hg.trans k.live hg', k.trans hg k', L, p⟩
theorem ES.lifts {β : Type} {X Y : List Addr} {tr : Bool} : Lifts (δ := β) Y (fun f s r a s' => ES S X Y f tr s r a s') := fun f g s s₁ r c s' hg k q => by
  obtain ⟨c, σ'', g', ea, e1, e2, hg', k', L, x⟩ := q
  rw [List.append_assoc] at L x
  exact ⟨c, σ'', g ++ g', ea, e1, e2, hg.trans k.live hg', k.trans hg k', L, x.back fun a h => zAS k.live h⟩
theorem QN.lifts {X Y : List Addr} : Lifts Y (fun f s r a s' => QN S X Y f s r a s') := fun f g s s₁ r c s' hg k q => by
  obtain ⟨x, σ', g', e, hg', k', L, p, hl⟩ := q
  rw [List.append_assoc] at L p
  refine ⟨x, σ', g ++ g', e, hg.trans k.live hg', k.trans hg k', L, p, fun xs hx => ?_⟩
  obtain ⟨a, vs, n, e1, e2, e3, e4, e5, e6, e7⟩ := hl xs hx
  rw [List.append_assoc] at e4 e6
  exact ⟨a, vs, n, e1, zAS k.live e2, e3, e4, e5, e6, e7⟩
theorem Sim.go {α β γ δ : Type} {A : Around} {X Y : List Addr} {f : List Loc} {P : α → β → List Loc → Shared → Prop} {K : List Loc → Shared → R δ → γ → Shared → Prop} (hK : Lifts Y K)
    {t : Sem α} {r : R β} {rk : β → Sto → R δ} {s : Shared} {W : α → Shared → Prop} {Q' : γ → Shared → Prop} {E' : Value → Shared → Prop} (h : Sim S A X Y f P t r s) (hne : r.bind rk ≠ .stuck)
    (hQ : ∀ c s'', K f s (r.bind rk) c s'' → Q' c s'') (hE : ∀ e s'', ES S X Y f false s (r.bind rk) e s'' → E' e s'')
    (hk : ∀ a b σ' g s', rk b σ' ≠ .stuck → Fresh g s → Kp f Y s s' → Lk S X (f ++ g) σ' s'.heap → P a b (f ++ g) s' → (∀ c s'', K (f ++ g) s' (rk b σ') c s'' → Q' c s'') →
      (∀ e s'', ES S X Y (f ++ g) false s' (rk b σ') e s'' → E' e s'') → W a s') : wpAny (model S.prog S.w) A t W E' s := by
  have hr : r ≠ .stuck := fun e => hne (by rw [e]; rfl)
  refine wpAny_mono (h hr) (fun a s' q => ?_) fun e s' q => hE e s' ?_
  · obtain ⟨b, σ', g, rfl, hg, k, L, p⟩ := q
    exact hk a b σ' g s' hne hg k L p (fun c s'' q => hQ c s'' (hK f g s s' _ c s'' hg k q)) fun e s'' q => hE e s'' (ES.lifts f g s s' _ e s'' hg k q)
  · obtain ⟨c, σ', g, ea, e1, rfl, hg, k, L, x⟩ := q
    exact ⟨c, σ', g, ea, e1, rfl, hg, k, L, x⟩
theorem R.bind_assoc {α β γ : Type} (r : R α) (f : α → Sto → R β) (g : β → Sto → R γ) : (r.bind f).bind g = r.bind fun a σ => (f a σ).bind g := by cases r <;> rfl
theorem PE.here {X Y : List Addr} {f : List Loc} {σ : Sto} {s s' : Shared} {x : V} {v : Value} (L : Lk S X f σ s.heap) (p : PE S X f s x v s') : QN S X Y f s (.ok x σ) v s' := by
  have := PE.qn (f := f) (g := []) (Y := Y) (.nil s) (.refl f Y s) (by rwa [List.append_nil]) (by rw [List.append_nil]; exact p)
  exact this
theorem Sim.goN {α β : Type} {A : Around} {X Y : List Addr} {f : List Loc} {P : α → β → List Loc → Shared → Prop}
    {t : Sem α} {r : R β} {rk : β → Sto → R V} {s : Shared} {W : α → Shared → Prop} {Q' : Value → Shared → Prop} {E' : Value → Shared → Prop} (h : Sim S A X Y f P t r s) (hne : r.bind rk ≠ .stuck)
    (hQ : ∀ c s'', QN S X Y f s (r.bind rk) c s'' → Q' c s'') (hE : ∀ e s'', ES S X Y f false s (r.bind rk) e s'' → E' e s'')
    (hk : ∀ a b σ' g s', rk b σ' ≠ .stuck → Fresh g s → Kp f Y s s' → Lk S X (f ++ g) σ' s'.heap → P a b (f ++ g) s' → (∀ c s'', QN S X Y (f ++ g) s' (rk b σ') c s'' → Q' c s'') →
      (∀ e s'', ES S X Y (f ++ g) false s' (rk b σ') e s'' → E' e s'') → W a s') : wpAny (model S.prog S.w) A t W E' s :=
  Sim.go (K := fun f s r a s' => QN S X Y f s r a s') QN.lifts h hne hQ hE hk
theorem Sim.goQ {α β γ δ : Type} {A : Around} {X Y : List Addr} {f : List Loc} {P : α → β → List Loc → Shared → Prop} {P' : γ → δ → List Loc → Shared → Prop}
    {t : Sem α} {r : R β} {rk : β → Sto → R δ} {s : Shared} {W : α → Shared → Prop} {Q' : γ → Shared → Prop} {E' : Value → Shared → Prop} (h : Sim S A X Y f P t r s) (hne : r.bind rk ≠ .stuck)
    (hQ : ∀ c s'', QS S X Y f P' s (r.bind rk) c s'' → Q' c s'') (hE : ∀ e s'', ES S X Y f false s (r.bind rk) e s'' → E' e s'')
    (hk : ∀ a b σ' g s', rk b σ' ≠ .stuck → Fresh g s → Kp f Y s s' → Lk S X (f ++ g) σ' s'.heap → P a b (f ++ g) s' → (∀ c s'', QS S X Y (f ++ g) P' s' (rk b σ') c s'' → Q' c s'') →
      (∀ e s'', ES S X Y (f ++ g) false s' (rk b σ') e s'' → E' e s'') → W a s') : wpAny (model S.prog S.w) A t W E' s :=
  Sim.go (K := fun f s r a s' => QS S X Y f P' s r a s') QS.lifts h hne hQ hE hk
end
end Mine
end

/-! # DictS -/
section
set_option autoImplicit false
namespace Mine
open PySem PyProof.Rows
section
variable {S : Stat} {C : Ctx} {T : Nat → Option Fn} {F Fq : Calls} {q : Bool} {d : Nat} {Γ : List Str} {sc : Scope}
variable {X X' Y Z : List Addr} {f g : List Loc} {σ : Sto} {s s' : Shared} {A : Around} {E : Value → Shared → Prop} {env : Env} {ρ : List V}
theorem dict_at {n : Nat} {ax : Addr} {es : List (Int × V)} (L : Lk S X f σ s.heap) (hf : f[n]? = some (ax, none)) (ho : σ[n]? = some (.dict es)) :
    ∃ kvs, s.heap.DictOf (intKind S.prog S.w) ax kvs ∧ kvs.map (·.1) = es.map (·.1) ∧ VRs S X f s.heap (es.map (·.2)) (kvs.map (·.2)) ∧ es.length ≤ LIM := L.obj n _ _ hf ho
theorem zHY {n : Nat} {ax : Addr} {es' : List (Int × V)} {kvs' : List (Int × Value)} {h' : Heap} {t : Nat} (L : Lk S X f σ s.heap) (hf : f[n]? = some (ax, none)) (hs : Heap.SameBut ax s.heap h') (hd : h'.DictOf (intKind S.prog S.w) ax kvs')
    (e1 : kvs'.map (·.1) = es'.map (·.1)) (rs : VRs S X f s.heap (es'.map (·.2)) (kvs'.map (·.2))) (hl : es'.length ≤ LIM) :
    Lk S X f (σ.set n (.dict es')) h' ∧ ∀ Y, Kp f Y s { s with heap := h', toks := t } := by
  have hs' : ∀ b o, b ∉ Loc.addrs (ax, none) → s.heap.get? b = some o → h'.get? b = some o := fun b o hb e => (hs.2 b fun q => hb (by rw [q]; exact List.mem_singleton.mpr rfl)).trans e
  have hax : ax ∈ addrs f := zAX hf (List.mem_singleton.mpr rfl)
  refine ⟨L.upd hf hs' ⟨kvs', hd, e1, ?_, hl⟩, fun Y => Kp.upd hf hs' fun a ha => ?_⟩
  · exact VRs.keep (fun _ _ e => e) (fun b ob q h1 h2 => ⟨⟨h1, h2⟩, ob, hs' b ob (fun z => h1 (by rw [List.mem_singleton.mp z]; exact hax)) q, .refl ob⟩) _ _ rs
  · rw [List.mem_singleton.mp ha]; obtain ⟨o, _, _, e, _⟩ := hd; exact ⟨o, e⟩
theorem zFd {k : Int} {v : V} {vv : Value} {h : Heap} (rv : VR S X f h v vv) : ∀ {es : List (Int × V)} {kvs : List (Int × Value)}, kvs.map (·.1) = es.map (·.1) → VRs S X f h (es.map (·.2)) (kvs.map (·.2)) →
    ((kvs.any fun kv => decide (kv.1 = k)) = es.any fun p => p.1 == k) ∧ ((kvs.map fun kv => if kv.1 = k then (kv.1, vv) else kv).map (·.1) = (es.map fun p => if p.1 == k then (k, v) else p).map (·.1)) ∧
      VRs S X f h ((es.map fun p => if p.1 == k then (k, v) else p).map (·.2)) ((kvs.map fun kv => if kv.1 = k then (kv.1, vv) else kv).map (·.2))
  | [], [], _, _ => ⟨rfl, rfl, by rw [List.map_nil, List.map_nil, List.map_nil, List.map_nil, VRs]; trivial⟩
  | [], _ :: _, e, _ => by cases e
  | _ :: _, [], e, _ => by cases e
  | (i, x) :: es, (j, w) :: kvs, e, r => by
    have e0 : j :: kvs.map (·.1) = i :: es.map (·.1) := e
    obtain ⟨rfl, e1⟩ := List.cons.inj e0
    have r0 : VRs S X f h (x :: es.map (·.2)) (w :: kvs.map (·.2)) := r
    rw [VRs] at r0
    obtain ⟨h1, h2, h3⟩ := zFd (k := k) rv e1 r0.2
    by_cases hk : j = k
    · have c1 : (if (j, w).1 = k then ((j, w).1, vv) else (j, w)) = (j, vv) := if_pos hk
      have c2 : (if ((j, x).1 == k) = true then (k, v) else (j, x)) = (k, v) := if_pos (by simp [hk])
      refine ⟨by simp [hk], ?_, ?_⟩
      · show (if (j, w).1 = k then ((j, w).1, vv) else (j, w)).1 :: _ = (if ((j, x).1 == k) = true then (k, v) else (j, x)).1 :: _
        rw [c1, c2, h2, hk]
      · show VRs S X f h ((if ((j, x).1 == k) = true then (k, v) else (j, x)).2 :: _) ((if (j, w).1 = k then ((j, w).1, vv) else (j, w)).2 :: _)
        rw [c1, c2, VRs]
        exact ⟨rv, h3⟩
    · have c1 : (if (j, w).1 = k then ((j, w).1, vv) else (j, w)) = (j, w) := if_neg hk
      have c2 : (if ((j, x).1 == k) = true then (k, v) else (j, x)) = (j, x) := if_neg (by simp [hk])
      refine ⟨by simp [hk, h1], ?_, ?_⟩
      · show (if (j, w).1 = k then ((j, w).1, vv) else (j, w)).1 :: _ = (if ((j, x).1 == k) = true then (k, v) else (j, x)).1 :: _
        rw [c1, c2, h2]
      · show VRs S X f h ((if ((j, x).1 == k) = true then (k, v) else (j, x)).2 :: _) ((if (j, w).1 = k then ((j, w).1, vv) else (j, w)).2 :: _)
        rw [c1, c2, VRs]
        exact ⟨r0.1, h3⟩
theorem zGm {n : Nat} {ki : Int} {vo vi vv : Value} {v' : V} {es : List (Int × V)} {Q : Unit → Shared → Prop} (L : Lk S X f σ s.heap) (ro : VR S X f s.heap (.ref n) vo) (ri : VR S X f s.heap (.int ki) vi) (hσ : σ[n]? = some (.dict es)) (hl : es.length < LIM) (rv : VR S X f s.heap v' vv)
    (h : ∀ h' tk, Lk S X f (σ.set n (.dict (setDict es ki v'))) h' → (∀ Y, Kp f Y s { s with heap := h', toks := tk }) → Q () { s with heap := h', toks := tk }) : wpAny (model S.prog S.w) A (setItem vo vi vv) Q E s := by
  rw [VR] at ro
  obtain ⟨⟨ax, dd⟩, hf, rfl⟩ := ro
  have hob := L.obj n _ _ hf hσ
  cases dd with
  | some _ => exact hob.elim
  | none =>
  obtain ⟨kvs, hd, e1, rs, _⟩ := hob
  obtain ⟨t, rfl⟩ := zAU ri
  have hlen : kvs.length = es.length := by have := congrArg List.length e1; simpa using this
  have hsz : kvs.length ≤ sizeLine := by rw [hlen]; exact Nat.le_trans (Nat.le_of_lt hl) zAO
  obtain ⟨p1, p2, p3⟩ := zFd (k := ki) rv e1 rs
  refine wpAny_setItem_pairs (knd := intKind S.prog S.w) (k := ki) (by show Value.isInt ki (.int ki t) = true; simp [Value.isInt]) hd (fun h' hd' hs => ?_) hsz
  have key : (stored kvs ki vv).map (·.1) = (setDict es ki v').map (·.1) ∧ VRs S X f s.heap ((setDict es ki v').map (·.2)) ((stored kvs ki vv).map (·.2)) ∧ (setDict es ki v').length ≤ LIM := by
    unfold stored setDict
    rw [p1]
    split
    · exact ⟨p2, p3, by rw [List.length_map]; exact Nat.le_of_lt hl⟩
    · refine ⟨by rw [List.map_append, List.map_append, e1]; rfl, ?_, by rw [List.length_append]; exact hl⟩
      rw [List.map_append, List.map_append]
      exact zAt rs (by rw [List.map_cons, List.map_nil, List.map_cons, List.map_nil, VRs, VRs]; exact ⟨rv, trivial⟩)
  obtain ⟨L3, k3⟩ := zHY (t := s.toks + 1) L hf hs hd' key.1 key.2.1 key.2.2
  exact h h' _ L3 k3
end
end Mine
end

/-! # Exc1 -/
section
set_option autoImplicit false
namespace Mine
open PySem PyProof.Rows
noncomputable def hideAll (h : Heap) : List Addr → Heap
  | [] => h
  | a :: l => (hideAll h l).hide a
theorem zCu {h : Heap} {a : Addr} : ∀ {l : List Addr}, a ∈ l → (hideAll h l).get? a = none
  | b :: l, m => by
    unfold hideAll
    by_cases e : a = b
    · rw [e]; exact Heap.hide_self _ _
    · rw [Heap.hide_ne _ e]; exact zCu ((List.mem_cons.mp m).resolve_left e)
theorem zBI {h : Heap} {a : Addr} : ∀ {l : List Addr}, a ∉ l → (hideAll h l).get? a = h.get? a
  | [], _ => rfl
  | b :: l, m => by
    unfold hideAll
    have hne : a ≠ b := fun e => m (by rw [e]; exact List.mem_cons_self)
    rw [Heap.hide_ne _ hne]
    exact zBI fun q => m (List.mem_cons_of_mem _ q)
theorem zFL (h : Heap) (l : List Addr) : (hideAll h l).StaysIn h := fun b o e => by
  by_cases m : b ∈ l
  · rw [zCu m] at e; first | exact zAA e | exact ff_tt e | cases e
  · rwa [zBI m] at e
section
variable {M : Model} {A : Around} {E : Value → Shared → Prop} {s : Shared} {env : Env} {outer : List Env} {base : Heap} {L e : Addr} {Q : Unit → Shared → Prop}
inductive Entered (base : Heap) (e : Addr) (cls : Value) (h h' : Heap) : Prop where
  | mk (stays : base.StaysIn h') (oe : Obj) (vs : Array Value) (T : Addr) (oT : Obj) (ts : Array Value) (p1 : h'.get? e = some oe) (p2 : oe.cls = cls) (p3 : oe.data = .fields vs) (p4 : vs[1]? = some (.ref T)) (p5 : base.get? T = none) (p6 : T ≠ e)
      (p7 : h'.get? T = some oT) (p8 : oT.data = .fields ts) (p9 : 3 < ts.size) (same : ∀ b o, h.get? b = some o → (∀ vs, o.data ≠ .fields vs) → ∃ sl, h'.get? b = some { o with slots := sl })
theorem zGP {head : Value} {hadNext : Bool} {oe : Obj} {vs : Array Value} (hfr : A.frames = some (env :: outer)) (hl : s.heap.FunFrames base (env :: outer)) (hf : env.frame = some L)
    (he : s.heap.get? e = some oe) (hkb : base.StaysIn s.heap) (hen : base.get? e = none) (hd : oe.data = .fields vs) (hsz : 1 < vs.size)
    (h : ∀ h', Entered base e oe.cls s.heap h' → Q () { s with heap := h' }) :
    wpAny M A (do let a ← frameOf env; let pl ← entryPlaceOf L hadNext; let b ← EntryCells.newEntry head a .none (rawInt L) .none pl; setField (.ref e) 1 b) Q E s := by
  have out : e ∉ (env :: outer).filterMap (·.frame) := fun hm => by
    obtain ⟨_, o, ho, hnf⟩ := hl.mem hm
    rw [he] at ho; cases ho; exact hnf vs hd
  refine wpAny_bind (wpAny_frameOf_fun hfr hl hf fun h₁ so => ?_)
  refine wpAny_bind (wpAny_entryPlaceOf fun pl hpl => ?_)
  unfold EntryCells.newEntry newFields
  refine wpAny_bind (wpAny_newObj_type ?_ (hpl.sizeOk5 _ _ _ _ _))
  have he₁ : h₁.get? e = some oe := (so.2.1 e out).trans he
  have kb₁ : base.StaysIn h₁ := fun b o hbo => (so.2.1 b fun hm => by rw [(hl.mem hm).1] at hbo; cases hbo).trans (hkb b o hbo)
  have hTe : h₁.objs.size ≠ e := Nat.ne_of_gt (Heap.lt_size he₁)
  refine wpAny_setField (Heap.get?_push_of_some _ he₁) hd hsz (h _ ?_)
  have keep : ∀ (ob : Obj) b o, b ≠ e → h₁.get? b = some o → ((h₁.push ob).update e (Obj.mapFields (·.setIfInBounds 1 (Value.ref h₁.objs.size)))).get? b = some o := fun ob b o hb q =>
    (Heap.get?_update_other _ _ (Ne.symm hb)).trans (Heap.get?_push_of_some _ q)
  have hd₃ := Obj.data_mapFields hd (·.setIfInBounds 1 (Value.ref h₁.objs.size))
  refine ⟨fun b o hbo => keep _ b o (fun q => by rw [q, hen] at hbo; cases hbo) (kb₁ b o hbo), _, _, h₁.objs.size, _, _, Heap.get?_update_self _ (Heap.get?_push_of_some _ he₁) (Obj.isFreed_of_fields hd₃), Obj.cls_mapFields _ _, hd₃, by simp [hsz], kb₁.fresh, hTe,
    (Heap.get?_update_other _ _ (Ne.symm hTe)).trans (Heap.get?_push_size h₁ rfl), rfl, ?_, fun b o hb hnf => ?_⟩
  · simp only [List.size_toArray, List.length_append, List.length_cons, List.length_nil]
    exact Nat.lt_of_lt_of_le (by decide) (Nat.le_add_right 5 _)
  · obtain ⟨sl, q⟩ := so.2.2 b o hb
    exact ⟨sl, keep _ b _ (fun z => by rw [z, he] at hb; cases hb; exact hnf vs hd) q⟩
theorem note_first {oe : Obj} {vs : Array Value} (hfr : A.frames = some (env :: outer)) (hl : s.heap.FunFrames base (env :: outer)) (hf : env.frame = some L)
    (he : s.heap.get? e = some oe) (hkb : base.StaysIn s.heap) (hen : base.get? e = none) (hd : oe.data = .fields vs) (h1 : vs[1]? = some .none)
    (h : ∀ h', Entered base e oe.cls s.heap h' → Q () { s with heap := h' }) :
    wpAny M A (noteFrame (.ref e) env) Q E s := by
  unfold noteFrame
  simp only [hf]
  refine wpAny_bind (wpAny_field he hd h1 ?_)
  rw [if_neg (by decide)]
  exact zGP hfr hl hf he hkb hen hd (Array.getElem?_eq_some_iff.mp h1).1 h
theorem note_next {oe oT : Obj} {vs ts : Array Value} {T : Addr} {z : Value} (hfr : A.frames = some (env :: outer)) (hl : s.heap.FunFrames base (env :: outer)) (hf : env.frame = some L)
    (he : s.heap.get? e = some oe) (hkb : base.StaysIn s.heap) (hen : base.get? e = none) (hd : oe.data = .fields vs) (h1 : vs[1]? = some (.ref T))
    (hnT : base.get? T = none) (hTe : T ≠ e) (hT : s.heap.get? T = some oT) (hdT : oT.data = .fields ts) (h3 : ts[3]? = some z)
    (h0 : Q () s) (h : ∀ h', Entered base e oe.cls s.heap h' → Q () { s with heap := h' }) :
    wpAny M A (noteFrame (.ref e) env) Q E s := by
  unfold noteFrame
  simp only [hf]
  refine wpAny_bind (wpAny_field he hd h1 ?_)
  rw [if_pos (show (Value.ref T != Value.none) = true from by simp)]
  refine wpAny_bind (wpAny_field hT hdT h3 ?_)
  by_cases hz : (z == rawInt L) = true
  · rw [if_pos hz]; exact wpAny_pure h0
  rw [if_neg hz]
  refine wpAny_bind (wpAny_setField hT hdT (Array.getElem?_eq_some_iff.mp h3).1 ?_)
  have other : ∀ b, b ≠ T → (s.heap.update T (Obj.mapFields (·.setIfInBounds 3 Value.none))).get? b = s.heap.get? b := fun b hb => Heap.get?_update_other _ _ (Ne.symm hb)
  have noRecord : ∀ b o, s.heap.get? b = some o → (∀ vs, o.data ≠ .fields vs) → b ≠ T := fun b o hb hnf q => by
    rw [q, hT] at hb; cases hb; exact hnf ts hdT
  exact zGP hfr (hl.of_keeps fun b o hb hnf => ⟨o, (other b (noRecord b o hb hnf)).trans hb, rfl⟩) hf ((other e (Ne.symm hTe)).trans he)
    (fun b o hbo => (other b fun q => by rw [q, hnT] at hbo; cases hbo).trans (hkb b o hbo)) hen hd (Array.getElem?_eq_some_iff.mp h1).1
    fun h' ⟨x1, oe, vs, T, oT, ts, p1, p2, p3, p4, p5, p6, p7, p8, p9, x4⟩ => h h' ⟨x1, oe, vs, T, oT, ts, p1, p2, p3, p4, p5, p6, p7, p8, p9, fun b o hb hnf => x4 b o ((other b (noRecord b o hb hnf)).trans hb) hnf⟩
end
section
variable {S : Stat} {X Y : List Addr} {f f₀ : List Loc} {σ : Sto} {h h' h₀ : Heap} {ea : Addr} {k : Cls} {s s' s₀ : Shared} {l : List Env}
noncomputable def frameAddrs (l : List Env) : List Addr := l.filterMap (·.frame)
theorem FrL.mem (F : FrL S f h l) {a : Addr} (ha : a ∈ frameAddrs l) : S.hb.get? a = none ∧ a ∉ addrs f ∧ ∃ o es n, h.get? a = some o ∧ o.data = .dict es n := by
  obtain ⟨e, he, hf⟩ := List.mem_filterMap.mp ha
  obtain ⟨_, L, o, es, n, h1, h2, h3, h4, h5⟩ := F e he
  rw [h1] at hf; cases hf
  exact ⟨h2, h3, o, es, n, h4, h5⟩
theorem FrL.fun {base : Heap} (F : FrL S f h l) (hb : ∀ a ∈ frameAddrs l, base.get? a = none) : h.FunFrames base l := by
  induction l with
  | nil => trivial
  | cons e l ih =>
    obtain ⟨h0, L, o, es, n, h1, h2, h3, h4, h5⟩ := F e List.mem_cons_self
    exact ⟨h0, ⟨L, o, h1, hb L (List.mem_filterMap.mpr ⟨e, List.mem_cons_self, h1⟩), h4, fun vs q => by rw [h5] at q; cases q⟩,
      ih (fun e he => F e (List.mem_cons_of_mem _ he)) fun a ha => hb a (by
        obtain ⟨e', he, hf⟩ := List.mem_filterMap.mp ha
        exact List.mem_filterMap.mpr ⟨e', List.mem_cons_of_mem _ he, hf⟩)⟩
structure Noted (S : Stat) (f : List Loc) (h h' : Heap) (hs : List Addr) : Prop where
  same : ∀ b o, b ∉ hs → h.get? b = some o → ∃ o', h'.get? b = some o' ∧ SameObj o o'
  base : ∀ b o, S.hb.get? b = some o → h'.get? b = some o
  trk : ∀ b ∈ addrs f, h'.get? b = h.get? b
theorem Noted.lk {hs hs' : List Addr} (N : Noted S f h h' hs) (L : Lk S (hs ++ X) f σ h) (hX : ∀ a ∈ X, a ∉ hs) (hn : ∀ a ∈ hs', (a ∈ hs ∨ h.get? a = none) ∧ ∃ o, h'.get? a = some o) : Lk S (hs' ++ X) f σ h' := by
  have nf : ∀ a, a ∈ addrs f → ∃ o, h.get? a = some o := fun a ha => L.live ha
  have ho : ∀ a o, h.get? a = some o → a ∉ addrs f → a ∉ hs ++ X → (a ∉ addrs f ∧ a ∉ hs' ++ X) ∧ ∃ o', h'.get? a = some o' ∧ SameObj o o' := fun a o e h1 h2 => by
    refine ⟨⟨h1, fun q => ?_⟩, N.same a o (fun q => h2 (List.mem_append_left _ q)) e⟩
    rcases List.mem_append.mp q with q | q
    · rcases (hn a q).1 with z | z
      · exact h2 (List.mem_append_left _ z)
      · rw [z] at e; first | exact zAA e | exact ff_tt e | cases e
    · exact h2 (List.mem_append_right _ q)
  refine ⟨N.base, L.len, L.nodup, L.fresh, fun a ha => ?_, fun i l o hi hσ => (L.obj i l o hi hσ).keep (fun x v e => VR.keep (fun _ _ e => e) ho x v e) (fun x v e => VRs.keep (fun _ _ e => e) ho x v e) fun a ha => N.trk a (zAX hi ha)⟩
  rcases List.mem_append.mp ha with q | q
  · obtain ⟨z, o, e⟩ := hn a q
    rcases z with z | z
    · obtain ⟨h1, h2, _⟩ := L.hid a (List.mem_append_left _ z)
      exact ⟨h1, h2, o, e⟩
    · refine ⟨?_, fun hf => ?_, o, e⟩
      · cases hb : S.hb.get? a with
        | none => rfl
        | some o => have := L.base a o hb; rw [z] at this; cases this
      · obtain ⟨o, q⟩ := nf a hf; rw [z] at q; cases q
  · obtain ⟨h1, h2, o, e⟩ := L.hid a (List.mem_append_right _ q)
    exact ⟨h1, h2, let ⟨o', q', _⟩ := N.same a o (hX a q) e; ⟨o', q'⟩⟩
theorem Noted.kp {hs : List Addr} (N : Noted S f s.heap h' hs) (K : Kp f₀ Y s₀ s) (hn : ∀ a ∈ hs, s₀.heap.get? a = none) : Kp f₀ Y s₀ { s with heap := h' } := by
  have no : ∀ a o, s₀.heap.get? a = some o → a ∉ hs := fun a o e m => by rw [hn a m] at e; cases e
  refine ⟨?_, fun a o e => ?_, fun a o e h1 h2 => ?_, fun a o es n e d h1 => ?_⟩
  · show ({ s with heap := h' } : Shared) = _
    rw [K.rest]
  · obtain ⟨o₁, e₁⟩ := K.live a o e
    exact let ⟨o', q', _⟩ := N.same a o₁ (no a o e) e₁; ⟨o', q'⟩
  · obtain ⟨o₁, e₁, q₁⟩ := K.kept a o e h1 h2
    obtain ⟨o₂, e₂, q₂⟩ := N.same a o₁ (no a o e) e₁
    exact ⟨o₂, e₂, q₁.trans q₂⟩
  · obtain ⟨o₁, es₁, n₁, e₁, d₁⟩ := K.dicts a o es n e d h1
    obtain ⟨o₂, e₂, q₂⟩ := N.same a o₁ (no a o e) e₁
    exact ⟨o₂, es₁, n₁, e₂, q₂.data.trans d₁⟩
theorem zBA {M : Model} {A : Around} {E : Value → Shared → Prop} {Q : Unit → Shared → Prop} {fr : Option Addr} (x : ExcR S X f σ s.heap h₀ ea k) (hX : ∀ a ∈ X, ∃ o, h₀.get? a = some o)
    (hQ : ∀ h' hs, (∀ a ∈ hs, h₀.get? a = none) → Noted S f s.heap h' hs → Lk S X f σ h' → ExcR S X f σ h' h₀ ea k → Q () { s with heap := h' }) : wpAny M A (setFlight (.ref ea) fr) Q E s := by
  obtain ⟨e1, ec, hs, oe, vs, Lh, e4, e5, e6, e8⟩ := id x
  rcases e8 with ⟨rfl, v1⟩ | ⟨T, oT, ts, rfl, t0, t1, t2, t3, t4, t5⟩
  · unfold setFlight
    refine wpAny_bind (wpAny_field e4 e6 v1 ?_)
    rw [if_neg (by decide)]
    refine wpAny_pure ?_
    exact hQ s.heap [] (fun a ha => nomatch ha) ⟨fun b o _ e => ⟨o, e, .refl o⟩, Lh.base, fun _ _ => rfl⟩ (Lh.less fun a ha => List.mem_append_right _ ha) x
  · unfold setFlight
    refine wpAny_bind (wpAny_field e4 e6 t2 ?_)
    rw [if_pos (show (Value.ref T != Value.none) = true from by simp)]
    refine wpAny_setField t3 t4 t5 ?_
    generalize (fr.elim Value.none fun f => rawInt f) = z
    have hd₃ := Obj.data_mapFields t4 (·.setIfInBounds 3 z)
    have hT := Heap.get?_update_self (Obj.mapFields (·.setIfInBounds 3 z)) t3 (Obj.isFreed_of_fields hd₃)
    have other : ∀ b, b ≠ T → (s.heap.update T (Obj.mapFields (·.setIfInBounds 3 z))).get? b = s.heap.get? b := fun b hb => Heap.get?_update_other _ _ (Ne.symm hb)
    have hfree : ∀ a ∈ [ea, T], h₀.get? a = none := fun a ha => by
      rcases List.mem_cons.mp ha with rfl | ha
      · exact e1
      · rw [List.mem_singleton.mp ha]; exact t0
    have hTm : T ∈ [ea, T] ++ X := List.mem_append_left _ (List.mem_cons_of_mem _ (List.mem_singleton.mpr rfl))
    have N : Noted S f s.heap (s.heap.update T (Obj.mapFields (·.setIfInBounds 3 z))) [ea, T] := by
      refine ⟨fun b o hb e => ⟨o, (other b fun q => hb (q ▸ List.mem_cons_of_mem _ (List.mem_singleton.mpr rfl))).trans e, .refl o⟩, fun b o e => ?_, fun b hb => other b fun q => ?_⟩
      · exact (other b fun q => by rw [q, (Lh.hid T hTm).1] at e; cases e).trans (Lh.base b o e)
      · exact (Lh.hid T hTm).2.1 (q ▸ hb)
    have hXs : ∀ a ∈ X, a ∉ [ea, T] := fun a ha m => by obtain ⟨o, e⟩ := hX a ha; rw [hfree a m] at e; cases e
    have L1 : Lk S ([ea, T] ++ X) f σ (s.heap.update T (Obj.mapFields (·.setIfInBounds 3 z))) := N.lk Lh hXs fun a ha => ⟨.inl ha, by
      rcases List.mem_cons.mp ha with rfl | ha
      · exact ⟨_, (other a (Ne.symm t1)).trans e4⟩
      · rw [List.mem_singleton.mp ha]; exact ⟨_, hT⟩⟩
    refine hQ _ [ea, T] hfree N (L1.less fun a ha => List.mem_append_right _ ha) ⟨e1, ec, [ea, T], oe, vs, L1, (other ea (Ne.symm t1)).trans e4, e5, e6, .inr ⟨T, _, _, rfl, t0, t1, t2, hT, hd₃, by rw [Array.size_setIfInBounds]; exact t5⟩⟩
theorem note_at {M : Model} {A : Around} {E : Value → Shared → Prop} {Q : Unit → Shared → Prop} {env : Env} {outer : List Env} {L : Addr} (hfr : A.frames = some (env :: outer)) (F : FrL S f s.heap (env :: outer)) (hf : env.frame = some L)
    (x : ExcR S X f σ s.heap h₀ ea k) (hX : ∀ a ∈ X, ∃ o, h₀.get? a = some o) (hback : ∀ a, s.heap.get? a = none → h₀.get? a = none)
    (hQ : ∀ h' hs oe vs T, (∀ a ∈ hs, h₀.get? a = none) → Noted S f s.heap h' hs → ExcR S X f σ h' h₀ ea k → h'.get? ea = some oe → oe.data = .fields vs → vs[1]? = some (.ref T) → Q () { s with heap := h' }) :
    wpAny M A (noteFrame (.ref ea) env) Q E s := by
  have x0 := x
  obtain ⟨e1, ec, hs, oe, vs, Lh, e4, e5, e6, e8⟩ := x
  have hea : ea ∈ hs := by rcases e8 with ⟨rfl, _⟩ | ⟨T, _, _, rfl, _⟩ <;> exact List.mem_cons_self
  have hfree : ∀ a ∈ hs, h₀.get? a = none := by
    rcases e8 with ⟨rfl, _⟩ | ⟨T, _, _, rfl, t1, _⟩
    · intro a ha; rw [List.mem_singleton.mp ha]; exact e1
    · intro a ha
      rcases List.mem_cons.mp ha with rfl | ha
      · exact e1
      · rw [List.mem_singleton.mp ha]; exact t1
  have Fr : ∀ {a : Addr}, a ∈ frameAddrs (env :: outer) → S.hb.get? a = none ∧ a ∉ addrs f ∧ ∃ o es n, s.heap.get? a = some o ∧ o.data = .dict es n := FrL.mem F
  have hB : ∀ a ∈ frameAddrs (env :: outer) ++ hs, (hideAll s.heap (frameAddrs (env :: outer) ++ hs)).get? a = none := fun a ha => zCu ha
  have hFF : s.heap.FunFrames (hideAll s.heap (frameAddrs (env :: outer) ++ hs)) (env :: outer) := F.fun fun a ha => hB a (List.mem_append_left _ ha)
  have hst := zFL s.heap (frameAddrs (env :: outer) ++ hs)
  have fin : ∀ h', Entered (hideAll s.heap (frameAddrs (env :: outer) ++ hs)) ea oe.cls s.heap h' → Q () { s with heap := h' } := fun h' q => by
    obtain ⟨q1, oe', vs', T', oT', ts', p1, p2, p3, p4, p5, p6, p7, p8, p9, q4⟩ := q
    have exact' : ∀ b o, b ∉ frameAddrs (env :: outer) → b ∉ hs → s.heap.get? b = some o → h'.get? b = some o := fun b o h1 h2 e =>
      q1 b o ((zBI fun m => (List.mem_append.mp m).elim h1 h2).trans e)
    have same : ∀ b o, b ∉ hs → s.heap.get? b = some o → ∃ o', h'.get? b = some o' ∧ SameObj o o' := fun b o h2 e => by
      by_cases h1 : b ∈ frameAddrs (env :: outer)
      · obtain ⟨_, _, o2, es, n, r1, r2⟩ := Fr h1
        rw [e] at r1; cases r1
        obtain ⟨sl, r3⟩ := q4 b o e fun vs q => by rw [r2] at q; cases q
        exact ⟨_, r3, .inr ⟨⟨es, n, r2⟩, rfl, rfl, rfl⟩⟩
      · exact ⟨o, exact' b o h1 h2 e, .refl o⟩
    have hT' : T' ∈ hs ∨ s.heap.get? T' = none := by
      cases e : s.heap.get? T' with
      | none => exact .inr rfl
      | some o =>
        by_cases m : T' ∈ frameAddrs (env :: outer) ++ hs
        · rcases List.mem_append.mp m with m | m
          · obtain ⟨_, _, o2, es, n, r1, r2⟩ := Fr m
            obtain ⟨sl, r3⟩ := q4 T' o2 r1 fun vs q => by rw [r2] at q; cases q
            rw [p7] at r3; cases r3
            rw [r2] at p8; cases p8
          · exact .inl m
        · rw [zBI m, e] at p5; first | exact zAA p5 | exact ff_tt p5 | cases p5
    have N : Noted S f s.heap h' hs := by
      refine ⟨same, fun b o e => ?_, fun b hb => ?_⟩
      · have hb : s.heap.get? b = some o := Lh.base b o e
        refine exact' b o (fun m => ?_) (fun m => ?_) hb
        · rw [(Fr m).1] at e; first | exact zAA e | exact ff_tt e | cases e
        · rw [(Lh.hid b (List.mem_append_left _ m)).1] at e; first | exact zAA e | exact ff_tt e | cases e
      · obtain ⟨o, e⟩ := Lh.live hb
        rw [e]
        exact exact' b o (fun m => (Fr m).2.1 hb) (fun m => (Lh.hid b (List.mem_append_left _ m)).2.1 hb) e
    have hXs : ∀ a ∈ X, a ∉ hs := fun a ha m => by obtain ⟨o, e⟩ := hX a ha; rw [hfree a m] at e; cases e
    have L1 : Lk S ([ea, T'] ++ X) f σ h' := N.lk Lh hXs fun a ha => by
      rcases List.mem_cons.mp ha with rfl | ha
      · exact ⟨.inl hea, _, p1⟩
      · obtain rfl := List.mem_singleton.mp ha; exact ⟨hT', _, p7⟩
    refine hQ h' hs oe' vs' T' hfree N ⟨e1, ec, [ea, T'], oe', vs', L1, p1, p2.trans e5, p3, .inr ⟨T', oT', ts', rfl, ?_, p6, p4, p7, p8, p9⟩⟩ p1 p3 p4
    rcases hT' with m | m
    · exact hfree T' m
    · exact hback T' m
  rcases e8 with ⟨rfl, v1⟩ | ⟨T, oT, ts, rfl, t0, t1, t2, t3, t4, t5⟩
  · exact note_first hfr hFF hf e4 hst (hB ea (List.mem_append_right _ hea)) e6 v1 fin
  · exact note_next hfr hFF hf e4 hst (hB ea (List.mem_append_right _ hea)) e6 t2 (hB T (List.mem_append_right _ (List.mem_cons_of_mem _ (List.mem_singleton.mpr rfl)))) t1 t3 t4 (Array.getElem?_eq_getElem t5) (hQ s.heap [] oe vs T (fun a ha => nomatch ha) ⟨fun b o _ e => ⟨o, e, .refl o⟩, Lh.base, fun _ _ => rfl⟩ x0 e4 e6 t2) fin
theorem zEr {M : Model} {A : Around} {E : Value → Shared → Prop} {Q : Unit → Shared → Prop} {env : Env} {outer : List Env} {L : Addr} (hfr : A.frames = some (env :: outer)) (F : FrL S f s.heap (env :: outer)) (hf : env.frame = some L)
    (x : ExcR S X f σ s.heap s₀.heap ea k) (hX : ∀ a ∈ X, ∃ o, s₀.heap.get? a = some o) (kp : Kp f₀ Y s₀ s)
    (hQ : ∀ h', Kp f₀ Y s₀ { s with heap := h' } → Lk S X f σ h' → ExcR S X f σ h' s₀.heap ea k → Q () { s with heap := h' }) :
    wpAny M A (noteFrame (.ref ea) env) (fun _ s₂ => wpAny M A (setFlight (.ref ea) none) Q E s₂) E s :=
  note_at hfr F hf x hX (fun _ h => zAS kp.live h) fun h₁ hs _ _ _ h1 N x1 _ _ _ => zBA (s := { s with heap := h₁ }) x1 hX fun h₂ hs2 h2 N2 L2 x2 => hQ h₂ (N2.kp (N.kp kp h1) h2) L2 x2
theorem zBU {e : Value} {env env' : Env} (h : env'.frame = env.frame) : noteFrame e env = noteFrame e env' := by
  unfold noteFrame PySem.frameOf
  rw [h]
end
end Mine
end

/-! # Expr1 -/
section
set_option autoImplicit false
namespace Mine
open PySem PyProof.Rows
section
variable {S : Stat} {C : Ctx} {T : Nat → Option Fn} {F : Calls} {q : Bool} {d : Nat} {Γ : List Str} {sc : Scope}
theorem Lk.ofBase {X : List Addr} {f : List Loc} {σ : Sto} {h : Heap} (L : Lk S X f σ h) {v : V} {w : Value} (r : VR S [] [] S.hb v w) : VR S X f h v w :=
  VR.keep (fun i l e => by simp at e) (fun a o ho _ _ => ⟨⟨fun q => (by rw [L.fresh a q] at ho; cases ho), fun q => (by rw [(L.hid a q).1] at ho; cases ho)⟩, o, L.base a o ho, .refl o⟩) v w r
theorem Lk.ns {X : List Addr} {f : List Loc} {σ : Sto} {h : Heap} {a : Addr} {m : Str → Option Value} (L : Lk S X f σ h) (n : S.hb.Ns a m) : h.Ns a m := by
  obtain ⟨o, es, ep, ho, r⟩ := n
  exact ⟨o, es, ep, L.base a o ho, r⟩
theorem ok_none {k pos} : EOk S F q d Γ sc (.Constant .none k pos) (.lit .none) := fun env ρ f X σ s A st _ => by
  rw [x_lit]
  exact wpAny_Constant_none (.leaf st.lk (.refl s) (by rw [VR]))
theorem ok_bool {b k pos} : EOk S F q d Γ sc (.Constant (.bool b) k pos) (.lit (.bool b)) := fun env ρ f X σ s A st _ => by
  rw [x_lit]
  exact wpAny_Constant_bool (.leaf st.lk (.refl s) (by rw [VR]))
theorem ok_int {i k pos} : EOk S F q d Γ sc (.Constant (.int i) k pos) (.lit (.int i)) := fun env ρ f X σ s A st _ => by
  rw [x_lit]
  exact wpAny_Constant_int (.leaf st.lk (.toks s _) (by rw [VR]; exact ⟨_, rfl⟩))
theorem ok_str {x : Str} {k pos} (h : (x.length ≤ 1000 && PyData.strOk x) = true) : EOk S F q d Γ sc (.Constant (.str x) k pos) (.lit (.str x)) := fun env ρ f X σ s A st _ => by
  rw [x_lit]
  rw [Bool.and_eq_true] at h
  have := of_decide_eq_true h.1
  exact wpAny_Constant_str (.leaf st.lk (.toks s _) (by rw [VR]; exact ⟨⟨_, rfl⟩, by unfold LIM; omega, h.2⟩))
theorem load_name {env : Env} {x : Str} {w : Value} {s : Shared} {A : Around} {Q : Value → Shared → Prop} {E : Value → Shared → Prop} (hk : env.scope.kind = .function) (hc : (x == ("__classdict__" : Str)) = false) (n : NameIs env s.heap x w) (h : Q w s) :
    wpAny (model S.prog S.w) A (loadName env x) Q E s := by
  rcases n with ⟨h1, m, h2, h3⟩ | ⟨h1, c, h2, h3⟩
  · exact wpAny_loadName_local hk h1 h2 h3 h
  · rcases h1 with h1 | h1
    · exact wpAny_loadName_cell hk h1 h2 h3 h
    · exact wpAny_loadName_free hk h1 h2 h3 h hc
theorem zFg {ρ : List V} {i : Nat} {v : V} (h : readVar ρ i = some v) : ρ[i]? = some v ∧ v ≠ .undef := by
  unfold readVar at h
  split at h
  · first | exact zAA h | exact ff_tt h | cases h
  · first | exact zAA h | exact ff_tt h | cases h
  · rename_i w h1 h2
    cases h
    exact ⟨h2, fun e => h1 e⟩
theorem ok_name (fs : Facts S C T) {x : Str} {pos : Pos} {c : CE} (h : cName C Γ sc x = some c) : EOk S F q d Γ sc (.Name x pos) c := fun env ρ f X σ s A st hne => by
  unfold cName at h
  split at h
  · first | exact zAA h | exact ff_tt h | cases h
  rename_i hn
  simp only [Bool.or_eq_true, not_or, Bool.not_eq_true] at hn
  refine wpAny_Name ?_ hn.1
  split at h
  · rename_i hv
    simp only [Option.map_eq_some_iff] at h
    obtain ⟨i, hi, rfl⟩ := h
    rw [x_var] at hne ⊢
    cases hr : readVar ρ i with
    | none => rw [hr] at hne; exact absurd rfl hne
    | some v =>
      obtain ⟨h1, h2⟩ := zFg hr
      obtain ⟨w, n, r⟩ := st.fr.vals x i v hv hi h1 h2
      exact load_name st.fr.kind hn.2 n (QS.leaf st.lk (.refl s) r)
  · split at h
    · rename_i hg
      simp only [Option.map_eq_some_iff] at h
      obtain ⟨v, hv, rfl⟩ := h
      rw [x_lit]
      obtain ⟨mg, mb, g1, g2, g3, _⟩ := fs.g
      obtain ⟨w, e1, e2⟩ := g3 x v hv
      exact zBF st.fr.kind (st.fr.isGlob hg) (by rw [st.fr.glob]; exact st.lk.ns g1) e1 (QS.leaf st.lk (.refl s) (st.lk.ofBase e2))
    · first | exact zAA h | exact ff_tt h | cases h
theorem zAb {β : Type} {σ : Sto} {o : Option β} (h : R.lift σ o ≠ .stuck) : ∃ x, o = some x := by
  cases o with
  | none => exact absurd rfl h
  | some x => exact ⟨x, rfl⟩
theorem bin_sound {X : List Addr} {f : List Loc} {σ : Sto} {s : Shared} {A : Around} {E : Value → Shared → Prop} {op : Operator} {o : P2} {a b x : V} {va vb : Value} (ho : binOf op = some o) (L : Lk S X f σ s.heap) (e : ev2 o σ a b = some x) (ra : VR S X f s.heap a va) (rb : VR S X f s.heap b vb) :
    wpAny (model S.prog S.w) A (binaryOp op va vb) (PE S X f s x) E s := by
  by_cases hop : op = .Add
  · subst hop
    cases ho
    exact add_sound L e ra rb
  · have : ∃ i j, a = .int i ∧ b = .int j := by
      cases op <;> first | exact absurd rfl hop | (cases ho; done) | (cases ho; exact zBv e)
    obtain ⟨i, j, rfl, rfl⟩ := this
    obtain ⟨t, rfl⟩ := zAU ra
    obtain ⟨u, rfl⟩ := zAU rb
    exact bin_int ho e
theorem zHQ {op : Operator} {o : P2} (h : binOf op = some o) : loud2 o = false := by
  cases op <;> simp [binOf] at h <;> subst h <;> rfl
theorem zAy {op : CmpOp} {o : P2} (h : cmpOf op = some o) : loud2 o = false := by
  cases op <;> simp [cmpOf] at h <;> subst h <;> rfl
theorem ok_BinOp {l r : Expr} {op : Operator} {pos : Pos} {o : P2} {a b : CE} (ho : binOf op = some o) (hl : EOk S F q d Γ sc l a) (hr : EOk S F q d Γ sc r b) : NOk S F q d Γ sc (.BinOp l op r pos) (.p2 o a b) := fun env ρ f X σ s A st hne => by
  rw [x_p2, zHQ ho, Bool.false_and, if_neg (by simp)] at hne ⊢
  refine wpAny_BinOp ?_
  refine Sim.goN (hl env ρ f X σ s A st) hne (fun _ _ x => x) (fun _ _ x => x) fun va a' σ₁ g₁ s₁ hne hg k L ra hQ hE => ?_
  have st₁ := st.keep hg k L
  refine Sim.goN (hr env ρ _ X σ₁ s₁ A st₁) hne hQ hE fun vb b' σ₂ g₂ s₂ hne hg₂ k₂ L₂ rb hQ hE => ?_
  obtain ⟨x, hx⟩ := zAb hne
  rw [hx] at hQ
  exact wpAny_mono (bin_sound ho L₂ hx (VR.keepK k₂ hg₂ (fun _ h => nomatch h) ra) rb) (fun v s' p => hQ v s' (p.here L₂)) fun _ _ x => x
end
end Mine
end

/-! # Expr2 -/
section
set_option autoImplicit false
namespace Mine
open PySem PyProof.Rows
section
variable {S : Stat} {C : Ctx} {T : Nat → Option Fn} {F : Calls} {q : Bool} {d : Nat} {Γ : List Str} {sc : Scope}
variable {X : List Addr} {f : List Loc} {σ : Sto} {s : Shared} {A : Around} {E : Value → Shared → Prop}
theorem Lk.parts {h : Heap} (fs : Facts S C T) (L : Lk S X f σ h) : PartsAt S h := fun hh => by
  obtain ⟨d, g, e, hd, hm, hg⟩ := fs.parts hh
  refine ⟨d, g, e, hd, ?_, hg⟩
  obtain ⟨o, es, ep, ho, r⟩ := hm
  exact ⟨o, es, ep, L.base d o ho, r⟩
theorem eq_sound {a b : V} {va vb : Value} {r : Bool} (hu : A.units + 64 < cLine) (L : Lk S X f σ s.heap) (e : eqV σ a b = some r) (ra : VR S X f s.heap a va) (rb : VR S X f s.heap b vb) :
    wpAny (model S.prog S.w) A (compareOp .Eq va vb) (PE S X f s (.bool r)) E s ∧ wpAny (model S.prog S.w) A (compareOp .NotEq va vb) (PE S X f s (.bool !r)) E s := by
  unfold eqV at e
  split at e
  · rename_i xs ys h1 h2
    split at e
    · rename_i hne
      cases e
      obtain ⟨p, vs, n, rfl, il, rs, hl⟩ := zAV L h1 ra
      obtain ⟨p2, vs2, n2, rfl, il2, rs2, hl2⟩ := zAV L h2 rb
      have hsz : (vs.size != vs2.size) = true := by rw [zAJ rs, zAJ rs2]; exact hne
      exact ⟨P.eq_list_lengths il il2 hsz (by omega) .bool0, SeqAt.RcNeAt.lists_lengths ⟨_, il, rfl, n, rfl⟩ ⟨_, il2, rfl, n2, rfl⟩ hsz (by omega) _ _ _ _ .bool0⟩
    · exact zGY hu L e ra rb
  · exact zGY hu L e ra rb
theorem zBc {op : CmpOp} {o : P2} (fs : Facts S C T) (hu : A.units + 64 < cLine) (ho : cmpOf op = some o) {a b x : V} {va vb : Value} (L : Lk S X f σ s.heap) (e : ev2 o σ a b = some x) (ra : VR S X f s.heap a va) (rb : VR S X f s.heap b vb) :
    wpAny (model S.prog S.w) A (compareOp op va vb) (PE S X f s x) E s := by
  by_cases h : op ≠ .Eq ∧ op ≠ .NotEq ∧ op ≠ .In ∧ op ≠ .NotIn
  · obtain ⟨i, j, rfl, rfl⟩ := cmp_ints ho h e
    obtain ⟨t, rfl⟩ := zAU ra
    obtain ⟨u, rfl⟩ := zAU rb
    exact cmp_int ho h e
  · have h' : op = .Eq ∨ op = .NotEq ∨ op = .In ∨ op = .NotIn := by
      by_cases h1 : op = .Eq
      · exact .inl h1
      by_cases h2 : op = .NotEq
      · exact .inr (.inl h2)
      by_cases h3 : op = .In
      · exact .inr (.inr (.inl h3))
      by_cases h4 : op = .NotIn
      · exact .inr (.inr (.inr h4))
      exact absurd ⟨h1, h2, h3, h4⟩ h
    rcases h' with rfl | rfl | rfl | rfl <;> cases ho
    · delta ev2 at e; dsimp only at e; simp only [Option.map_eq_some_iff] at e
      obtain ⟨r, h1, rfl⟩ := e
      exact (eq_sound hu L h1 ra rb).1
    · delta ev2 at e; dsimp only at e; simp only [Option.map_eq_some_iff] at e
      obtain ⟨r, h1, rfl⟩ := e
      exact (eq_sound hu L h1 ra rb).2
    · delta ev2 at e; dsimp only at e; simp only [Option.map_eq_some_iff] at e
      obtain ⟨r, h1, rfl⟩ := e
      exact (in_sound (L.parts fs) L h1 ra rb).1
    · delta ev2 at e; dsimp only at e; simp only [Option.map_eq_some_iff] at e
      obtain ⟨r, h1, rfl⟩ := e
      exact (in_sound (L.parts fs) L h1 ra rb).2
theorem St.room {env : Env} {ρ : List V} (st : St S q d Γ sc env ρ f X σ s A) : A.units + 64 < cLine := by
  have := st.cx.units
  have : cLine = 9900 := rfl
  omega
theorem zFX {v : V} {w : Value} {β : Type} {rk : Bool → Sto → R β} {W : Bool → Shared → Prop} (L : Lk S X f σ s.heap) (r : VR S X f s.heap v w) (hne : (R.lift σ (truthy σ v)).bind rk ≠ .stuck)
    (hk : ∀ t s', truthy σ v = some t → Ext s s' → rk t σ ≠ .stuck → W t s') : wpAny (model S.prog S.w) A (PySem.truthy w) W E s := by
  cases h : truthy σ v with
  | none => rw [h] at hne; exact absurd rfl hne
  | some t =>
    rw [h] at hne
    exact wpAny_mono (zAZ L h r) (fun c s' q => by obtain ⟨rfl, e⟩ := q; exact hk c s' h e hne) fun _ _ x => x
theorem QS.moved {α β : Type} {Y : List Addr} {P : α → β → List Loc → Shared → Prop} {r : R β} {a : α} {s₁ s' : Shared} (e : Ext s s₁) (h : QS S X Y f P s₁ r a s') : QS S X Y f P s r a s' :=
  QS.lifts f [] s s₁ r a s' (.nil s) (e.kp f Y) (by rwa [List.append_nil])
theorem QN.moved {Y : List Addr} {r : R V} {a : Value} {s₁ s' : Shared} (e : Ext s s₁) (h : QN S X Y f s₁ r a s') : QN S X Y f s r a s' :=
  QN.lifts f [] s s₁ r a s' (.nil s) (e.kp f Y) (by rwa [List.append_nil])
theorem ES.moved {β : Type} {Y : List Addr} {tr : Bool} {r : R β} {a : Value} {s₁ s' : Shared} (e : Ext s s₁) (h : ES S X Y f tr s₁ r a s') : ES S X Y f tr s r a s' :=
  ES.lifts f [] s s₁ r a s' (.nil s) (e.kp f Y) (by rwa [List.append_nil])
theorem St.moved {env : Env} {ρ : List V} {s' : Shared} (st : St S q d Γ sc env ρ f X σ s A) (e : Ext s s') : St S q d Γ sc env ρ f X σ s' A := by
  have := st.keep (g := []) (.nil s) (e.kp f []) (by rw [List.append_nil]; exact e.lk st.lk)
  rwa [List.append_nil] at this
theorem QS.bool {Y : List Addr} {b : Bool} {s' : Shared} (L : Lk S X f σ s.heap) (e : Ext s s') : QS S X Y f (fun b t _ _ => b = t) s (.ok b σ) b s' :=
  ⟨b, σ, [], rfl, .nil s, e.kp f Y, by rw [List.append_nil]; exact e.lk L, rfl⟩
theorem ok_p1 {e e' : Expr} {c : CE} {o : P1} {t : Value → Sem Value} (hq : (loud1 o && q) = false) (h : EOk S F q d Γ sc e c)
    (rule : ∀ (env : Env) (A : Around) (Q E : Value → Shared → Prop) (s : Shared), wpAny (model S.prog S.w) A (eval e env) (fun v s₁ => wpAny (model S.prog S.w) A (t v) Q E s₁) E s → wpAny (model S.prog S.w) A (eval e' env) Q E s)
    (op : ∀ (X : List Addr) (f : List Loc) (σ : Sto) (s : Shared) (A : Around) (E : Value → Shared → Prop) (a x : V) (va : Value), (q = false → A.handled = none) → Lk S X f σ s.heap → ev1 o σ a = some x → VR S X f s.heap a va → wpAny (model S.prog S.w) A (t va) (PE S X f s x) E s) :
    NOk S F q d Γ sc e' (.p1 o c) := fun env ρ f X σ s A st hne => by
  rw [x_p1, hq, if_neg (by simp)] at hne ⊢
  refine rule _ _ _ _ _ ?_
  refine Sim.goN (h env ρ f X σ s A st) hne (fun _ _ x => x) (fun _ _ x => x) fun va a' σ₁ g₁ s₁ hne hg k L ra hQ hE => ?_
  obtain ⟨x, hx⟩ := zAb hne
  rw [hx] at hQ
  exact wpAny_mono (op X _ σ₁ s₁ A _ a' x va st.cx.hand L hx ra) (fun v s' p => hQ v s' (p.here L)) fun _ _ x => x
theorem ok_not {e : Expr} {c : CE} {pos : Pos} (h : EOk S F q d Γ sc e c) : EOk S F q d Γ sc (.UnaryOp .Not e pos) (.p1 .not c) :=
  NOk.eok <| ok_p1 (by simp [loud1]) h (fun env A Q E s h => UnaryOp_ h) fun X f σ s A E a x va _ L hx ra => by
    delta ev1 at hx; dsimp only at hx; simp only [Option.map_eq_some_iff] at hx
    obtain ⟨b, hb, rfl⟩ := hx
    exact not_of (wpAny_mono (zAZ L hb ra) (fun c s' q => by obtain ⟨rfl, e⟩ := q; exact ⟨e, by rw [VR], fun _ e => by cases e⟩) fun _ _ x => x)
theorem ok_neg {e : Expr} {c : CE} {pos : Pos} (h : EOk S F q d Γ sc e c) : EOk S F q d Γ sc (.UnaryOp .USub e pos) (.p1 .neg c) :=
  NOk.eok <| ok_p1 (by simp [loud1]) h (fun env A Q E s h => UnaryOp_ h) fun X f σ s A E a x va _ L hx ra => by
    cases a with
    | int i => cases hx; obtain ⟨t, rfl⟩ := zAU ra; exact neg_sound
    | _ => first | exact zAA hx | exact ff_tt hx | cases hx
theorem ok_isNone {e : Expr} {c : CE} {k p pos} (fs : Facts S C T) (h : EOk S F q d Γ sc e c) : EOk S F q d Γ sc (.Compare e [.Is] [.Constant .none k p] pos) (.p1 .isNone c) :=
  NOk.eok <| ok_p1 (by simp [loud1]) h (fun env A Q E s h => wpAny_Compare1 (wpAny_mono h (fun v s₁ h₁ => wpAny_Constant_none h₁) fun _ _ x => x) rfl) fun X f σ s A E a x va _ L hx ra => zGT hx ra fs.pnn
theorem ok_isNotNone {e : Expr} {c : CE} {k p pos} (fs : Facts S C T) (h : EOk S F q d Γ sc e c) : EOk S F q d Γ sc (.Compare e [.IsNot] [.Constant .none k p] pos) (.p1 .isNotNone c) :=
  NOk.eok <| ok_p1 (by simp [loud1]) h (fun env A Q E s h => wpAny_Compare1 (wpAny_mono h (fun v s₁ h₁ => wpAny_Constant_none h₁) fun _ _ x => x) rfl) fun X f σ s A E a x va _ L hx ra => zEY hx ra fs.pnn
theorem ok_p2 {l r e' : Expr} {a b : CE} {o : P2} {t : Value → Value → Sem Value} (hq : (loud2 o && q) = false) (hl : EOk S F q d Γ sc l a) (hr : EOk S F q d Γ sc r b)
    (rule : ∀ (env : Env) (A : Around) (Q E : Value → Shared → Prop) (s : Shared), wpAny (model S.prog S.w) A (eval l env) (fun v s₁ => wpAny (model S.prog S.w) A (eval r env) (fun w s₂ => wpAny (model S.prog S.w) A (t v w) Q E s₂) E s₁) E s → wpAny (model S.prog S.w) A (eval e' env) Q E s)
    (op : ∀ (X : List Addr) (f : List Loc) (σ : Sto) (s : Shared) (A : Around) (E : Value → Shared → Prop) (a b x : V) (va vb : Value), (q = false → A.handled = none) → A.units + 64 < cLine → Lk S X f σ s.heap → ev2 o σ a b = some x → VR S X f s.heap a va → VR S X f s.heap b vb → wpAny (model S.prog S.w) A (t va vb) (fun v s' => Ext s s' ∧ VR S X f s'.heap x v) E s) :
    EOk S F q d Γ sc e' (.p2 o a b) := fun env ρ f X σ s A st hne => by
  rw [x_p2, hq, if_neg (by simp)] at hne ⊢
  refine rule _ _ _ _ _ ?_
  refine Sim.goQ (P' := PV S X) (hl env ρ f X σ s A st) hne (fun _ _ x => x) (fun _ _ x => x) fun va a' σ₁ g₁ s₁ hne hg k L ra hQ hE => ?_
  have st₁ := st.keep hg k L
  refine Sim.goQ (P' := PV S X) (hr env ρ _ X σ₁ s₁ A st₁) hne hQ hE fun vb b' σ₂ g₂ s₂ hne hg₂ k₂ L₂ rb hQ hE => ?_
  obtain ⟨x, hx⟩ := zAb hne
  rw [hx] at hQ
  exact wpAny_mono (op X _ σ₂ s₂ A _ a' b' x va vb st.cx.hand st.room L₂ hx (VR.keepK k₂ hg₂ (fun _ h => nomatch h) ra) rb) (fun v s' p => hQ v s' (.leaf L₂ p.1 p.2)) fun _ _ x => x
theorem PE.weak {x : V} {v : Value} {s' : Shared} (p : PE S X f s x v s') : Ext s s' ∧ VR S X f s'.heap x v := ⟨p.1, p.2.1⟩
theorem ok_cmp {l r : Expr} {a b : CE} {op : CmpOp} {o : P2} {pos : Pos} (fs : Facts S C T) (ho : cmpOf op = some o) (hm : behindInMarks op r = false) (hl : EOk S F q d Γ sc l a) (hr : EOk S F q d Γ sc r b) :
    EOk S F q d Γ sc (.Compare l [op] [r] pos) (.p2 o a b) :=
  ok_p2 (by rw [zAy ho, Bool.false_and]) hl hr (fun env A Q E s h => wpAny_Compare1 h hm) fun X f σ s A E a b x va vb _ hu L hx ra rb => wpAny_mono (zBc fs hu ho L hx ra rb) (fun _ _ p => p.weak) fun _ _ x => x
end
end Mine
end

/-! # Expr3 -/
section
set_option autoImplicit false
namespace Mine
open PySem PyProof.Rows
structure GOk (S : Stat) (F : Calls) (q : Bool) (d : Nat) (Γ : List Str) (sc : Scope) (e : Expr) (c : CE) : Prop where
  eo : EOk S F q d Γ sc e c
  to : TOk S F q d Γ sc e c
  star : isStar e = false
  marks : ∀ op, behindInMarks op e = false
  fold : ∀ env x, foldedSetIterable e env x = pure x
inductive All2 {α β : Type} (P : α → β → Prop) : List α → List β → Prop where
  | nil : All2 P [] []
  | cons {a : α} {b : β} {as : List α} {bs : List β} : P a b → All2 P as bs → All2 P (a :: as) (b :: bs)
section
variable {S : Stat} {C : Ctx} {T : Nat → Option Fn} {F : Calls} {q : Bool} {d : Nat} {Γ : List Str} {sc : Scope}
variable {X : List Addr} {f : List Loc} {σ : Sto} {s : Shared} {A : Around} {E : Value → Shared → Prop}
theorem TOk.plain {e : Expr} {c : CE} (h : EOk S F q d Γ sc e c) (he : ∀ env whole, isTrue e env whole = (do let v ← whole; standAt e.pos; holding [v] (PySem.truthy v))) : TOk S F q d Γ sc e c := fun env ρ f X σ s A st hne => by
  refine isTrue_plain ?_ (he env _)
  refine Sim.goQ (P' := fun b t _ _ => b = t) (h env ρ f X σ s A st) hne (fun _ _ x => x) (fun _ _ x => x) fun va a' σ₁ g₁ s₁ hne hg k L ra hQ hE => ?_
  obtain ⟨x, hx⟩ := zAb hne
  rw [hx] at hQ
  exact wpAny_mono (zAZ L hx ra) (fun c s' p => by obtain ⟨rfl, e⟩ := p; exact hQ c s' (.bool L e)) fun _ _ x => x
theorem TOk.not {e : Expr} {c : CE} {pos : Pos} (h : TOk S F q d Γ sc e c) : TOk S F q d Γ sc (.UnaryOp .Not e pos) (.p1 .not c) := fun env ρ f X σ s A st hne => by
  have key : ((evE F q (.p1 .not c) ρ σ).bind fun v σ => R.lift σ (truthy σ v)) = ((evE F q c ρ σ).bind fun v σ => R.lift σ (truthy σ v)).bind fun b σ => .ok (!b) σ := by
    rw [x_p1, show loud1 .not = false from rfl, Bool.false_and, if_neg (by simp), R.bind_assoc, R.bind_assoc]
    congr 1
    funext v σ'
    simp only [ev1]
    cases truthy σ' v <;> simp [R.lift, truthy]
  rw [key] at hne ⊢
  refine isTrue_not ?_
  refine Sim.goQ (P' := fun b t _ _ => b = t) (h env ρ f X σ s A st) hne (fun _ _ x => x) (fun _ _ x => x) fun va a' σ₁ g₁ s₁ hne hg k L ra hQ hE => ?_
  have ra : va = a' := ra
  subst ra
  exact hQ _ _ (.bool L (.refl s₁))
theorem zBa {op : CmpOp} {o : P2} (ho : cmpOf op = some o) {σ : Sto} {a b x : V} (h : ev2 o σ a b = some x) : ∃ t, x = .bool t := by
  cases op <;> cases ho
  all_goals first
    | (obtain ⟨r, _, rfl⟩ := Option.map_eq_some_iff.mp h; exact ⟨_, rfl⟩)
    | (obtain ⟨i, j, rfl, rfl⟩ := zBv h; cases h; exact ⟨_, rfl⟩)
theorem chain_e (fs : Facts S C T) {pos : Pos} : ∀ {ops : List CmpOp} {os : List P2} {es : List Expr} {cs : List CE}, All2 (fun op o => cmpOf op = some o) ops os → All2 (GOk S F q d Γ sc) es cs → ops.length = es.length →
    ∀ (env : Env) (ρ : List V) (f : List Loc) (X : List Addr) (σ : Sto) (s : Shared) (A : Around) (a : V) (va : Value), St S q d Γ sc env ρ f X σ s A → VR S X f s.heap a va →
      Sim S A X [] f (PV S X) (compareChain pos va ops (evalEach es env)) (evChain F q os cs a ρ σ) s ∧
      Sim S A X [] f (fun b t _ _ => b = t) (testChain pos va ops (evalEach es env)) ((evChain F q os cs a ρ σ).bind fun v σ => R.lift σ (truthy σ v)) s := by
  intro ops os es cs ho
  induction ho generalizing es cs with
  | nil =>
    intro hes hlen env ρ f X σ s A a va st ra
    cases hes with
    | nil => exact ⟨fun h => absurd rfl h, fun h => absurd rfl h⟩
    | cons _ _ => simp at hlen
  | @cons op o ops os h1 h2 ih =>
    intro hes hlen env ρ f X σ s A a va st ra
    cases hes with
    | nil => simp at hlen
    | @cons e c es cs he hes =>
      cases h2 with
      | nil =>
        cases hes with
        | nil =>
          constructor
          · intro hne
            rw [x_ch1, zAy h1, Bool.false_and, if_neg (by simp)] at hne ⊢
            refine chain_last ?_
            refine Sim.goQ (P' := PV S X) (he.eo env ρ f X σ s A st) hne (fun _ _ x => x) (fun _ _ x => x) fun vb b' σ₁ g₁ s₁ hne hg k L rb hQ hE => ?_
            obtain ⟨x, hx⟩ := zAb hne
            rw [hx] at hQ
            exact wpAny_mono (zBc fs st.room h1 L hx (VR.keepK k hg (fun _ h => nomatch h) ra) rb) (fun v s' p => hQ v s' (.leaf L p.1 p.2.1)) fun _ _ x => x
          · intro hne
            rw [x_ch1, zAy h1, Bool.false_and, if_neg (by simp), R.bind_assoc] at hne ⊢
            refine test_last ?_
            refine Sim.goQ (P' := fun b t _ _ => b = t) (he.eo env ρ f X σ s A st) hne (fun _ _ x => x) (fun _ _ x => x) fun vb b' σ₁ g₁ s₁ hne hg k L rb hQ hE => ?_
            cases hx : ev2 o σ₁ a b' with
            | none => rw [hx] at hne; exact absurd rfl hne
            | some x =>
              rw [hx] at hne hQ
              obtain ⟨t, rfl⟩ := zBa h1 hx
              refine wpAny_mono (zBc fs st.room h1 L hx (VR.keepK k hg (fun _ h => nomatch h) ra) rb) (fun v s' p => ?_) fun _ _ x => x
              obtain rfl := zAu p.2.1
              exact wpAny_mono (zAZ (p.1.lk L) (b := t) rfl p.2.1) (fun c s'' p2 => by obtain ⟨rfl, e⟩ := p2; exact hQ c s'' (.bool L (p.1.trans e))) fun _ _ x => x
        | cons _ _ => simp at hlen
      | @cons op' o' ops os h1' h2' =>
        cases hes with
        | nil => simp at hlen
        | @cons e2 c2 es cs he2 hes2 =>
          constructor
          · intro hne
            rw [x_ch2, zAy h1, Bool.false_and, if_neg (by simp)] at hne ⊢
            refine chain_link ?_
            refine Sim.goQ (P' := PV S X) (he.eo env ρ f X σ s A st) hne (fun _ _ x => x) (fun _ _ x => x) fun vb b' σ₁ g₁ s₁ hne hg k L rb hQ hE => ?_
            cases hx : ev2 o σ₁ a b' with
            | none => rw [hx] at hne; exact absurd rfl hne
            | some x =>
              rw [hx] at hne hQ hE
              obtain ⟨t, rfl⟩ := zBa h1 hx
              refine wpAny_mono (zBc fs st.room h1 L hx (VR.keepK k hg (fun _ h => nomatch h) ra) rb) (fun v s' p => ?_) fun _ _ x => x
              obtain rfl := zAu p.2.1
              refine wpAny_mono (zAZ (p.1.lk L) (b := t) rfl p.2.1) (fun c s'' p2 => ?_) fun _ _ x => x
              obtain ⟨rfl, e⟩ := p2
              have ee := p.1.trans e
              have st₂ := (st.keep hg k L).moved ee
              cases c with
              | true => exact wpAny_mono ((ih (.cons he2 hes2) (by simpa using hlen) env ρ _ X σ₁ s'' A b' vb st₂ (ee.vr rb)).1 hne) (fun v s3 q3 => hQ v s3 (.moved ee q3)) fun v s3 q3 => hE v s3 (.moved ee q3)
              | false => exact hQ _ _ (.leaf L ee (by rw [VR]))
          · intro hne
            rw [x_ch2, zAy h1, Bool.false_and, if_neg (by simp), R.bind_assoc] at hne ⊢
            refine test_link ?_
            refine Sim.goQ (P' := fun b t _ _ => b = t) (he.eo env ρ f X σ s A st) hne (fun _ _ x => x) (fun _ _ x => x) fun vb b' σ₁ g₁ s₁ hne hg k L rb hQ hE => ?_
            cases hx : ev2 o σ₁ a b' with
            | none => rw [hx] at hne; exact absurd rfl hne
            | some x =>
              rw [hx] at hne hQ hE
              obtain ⟨t, rfl⟩ := zBa h1 hx
              refine wpAny_mono (zBc fs st.room h1 L hx (VR.keepK k hg (fun _ h => nomatch h) ra) rb) (fun v s' p => ?_) fun _ _ x => x
              obtain rfl := zAu p.2.1
              refine wpAny_mono (zAZ (p.1.lk L) (b := t) rfl p.2.1) (fun c s'' p2 => ?_) fun _ _ x => x
              obtain ⟨rfl, e⟩ := p2
              have ee := p.1.trans e
              have st₂ := (st.keep hg k L).moved ee
              cases c with
              | true => exact wpAny_mono ((ih (.cons he2 hes2) (by simpa using hlen) env ρ _ X σ₁ s'' A b' vb st₂ (ee.vr rb)).2 hne) (fun v s3 q3 => hQ v s3 (.moved ee q3)) fun v s3 q3 => hE v s3 (.moved ee q3)
              | false => exact hQ _ _ (.bool L ee)
theorem zDE : ∀ {ops : List CmpOp} {es : List Expr} {cs : List CE}, All2 (GOk S F q d Γ sc) es cs → lastMarks ops es = false := by
  intro ops es cs h
  induction h generalizing ops with
  | nil => cases ops <;> simp [lastMarks]
  | @cons e c es cs he hes ih =>
    cases ops with
    | nil => simp [lastMarks]
    | cons op ops =>
      cases ops with
      | nil => cases es with
        | nil => simp only [lastMarks]; exact he.marks op
        | cons _ _ => simp only [lastMarks]
      | cons op2 ops => simp only [lastMarks]; exact ih
theorem ok_chain (fs : Facts S C T) {l : Expr} {a : CE} {ops : List CmpOp} {os : List P2} {es : List Expr} {cs : List CE} {pos : Pos} (hl : EOk S F q d Γ sc l a) (ho : All2 (fun op o => cmpOf op = some o) ops os) (hes : All2 (GOk S F q d Γ sc) es cs) (hlen : ops.length = es.length) :
    EOk S F q d Γ sc (.Compare l ops es pos) (.chain a os cs) ∧ TOk S F q d Γ sc (.Compare l ops es pos) (.chain a os cs) := by
  constructor
  · intro env ρ f X σ s A st hne
    rw [zDk] at hne ⊢
    show wpAny _ _ (do compareChain pos (← eval l env) ops (markedEach ops es (evalEach es env))) _ _ _
    rw [markedEach_of_false _ _ _ (zDE hes)]
    refine wpAny_bind ?_
    refine Sim.goQ (P' := PV S X) (hl env ρ f X σ s A st) hne (fun _ _ x => x) (fun _ _ x => x) fun va a' σ₁ g₁ s₁ hne hg k L ra hQ hE => ?_
    exact wpAny_mono ((chain_e fs ho hes hlen env ρ _ X σ₁ s₁ A a' va (st.keep hg k L) ra).1 hne) hQ hE
  · intro env ρ f X σ s A st hne
    rw [zDk, R.bind_assoc] at hne ⊢
    show wpAny _ _ (do testChain pos (← eval l env) ops (markedEach ops es (evalEach es env))) _ _ _
    rw [markedEach_of_false _ _ _ (zDE hes)]
    refine wpAny_bind ?_
    refine Sim.goQ (P' := fun b t _ _ => b = t) (hl env ρ f X σ s A st) hne (fun _ _ x => x) (fun _ _ x => x) fun va a' σ₁ g₁ s₁ hne hg k L ra hQ hE => ?_
    exact wpAny_mono ((chain_e fs ho hes hlen env ρ _ X σ₁ s₁ A a' va (st.keep hg k L) ra).2 hne) hQ hE
theorem TOk.cmp1 {l r : Expr} {op : CmpOp} {c : CE} {pos : Pos} (hm : behindInMarks op r = false) (h : EOk S F q d Γ sc (.Compare l [op] [r] pos) c) : TOk S F q d Γ sc (.Compare l [op] [r] pos) c := fun env ρ f X σ s A st hne => by
  rw [isTrue_Compare1, markedBehindIn_of_false hm]
  have he := h env ρ f X σ s A st
  have hr : (evE F q c ρ σ) ≠ .stuck := fun e => hne (by rw [e]; rfl)
  have key : wpAny (model S.prog S.w) A (eval (.Compare l [op] [r] pos) env >>= fun c => holding [c] (PySem.truthy c)) (QS S X [] f (fun b t _ _ => b = t) s ((evE F q c ρ σ).bind fun v σ => R.lift σ (truthy σ v))) (ES S X [] f false s ((evE F q c ρ σ).bind fun v σ => R.lift σ (truthy σ v))) s := by
    refine wpAny_bind ?_
    refine Sim.goQ (P' := fun b t _ _ => b = t) he hne (fun _ _ x => x) (fun _ _ x => x) fun va a' σ₁ g₁ s₁ hne hg k L ra hQ hE => ?_
    obtain ⟨x, hx⟩ := zAb hne
    rw [hx] at hQ
    exact wpAny_holding (wpAny_mono (zAZ L hx ra) (fun c s' p => by obtain ⟨rfl, e⟩ := p; exact hQ c s' (.bool L e)) fun _ _ x => x)
  have e2 : eval (.Compare l [op] [r] pos) env = (do let a ← eval l env; let b ← holding [a] (markedBehindIn op r (eval r env)); standAt pos; operate [a, b] (compareOp op a b)) := rfl
  rw [e2, markedBehindIn_of_false hm] at key
  simpa only [bind_assoc] using key
theorem ok_bools {op : BoolOp} {pos : Pos} : ∀ {es : List Expr} {cs : List CE} {c : CE}, All2 (GOk S F q d Γ sc) es cs → foldBool (op == .And) cs = some c →
    EOk S F q d Γ sc (.BoolOp op es pos) c ∧ TOk S F q d Γ sc (.BoolOp op es pos) c := by
  intro es cs c h
  induction h generalizing c with
  | nil => intro e; simp [foldBool] at e
  | @cons x cx es cs hx hes ih =>
    intro e
    cases hes with
    | nil =>
      simp only [foldBool] at e
      cases e
      refine ⟨fun env ρ f X σ s A st hne => BoolOp_one (hx.eo env ρ f X σ s A st hne), fun env ρ f X σ s A st hne => ?_⟩
      have := hx.to env ρ f X σ s A st hne
      cases op with
      | And => exact isTrue_and (wpAny_mono this (fun c s' q => by cases c with | true => exact isTrue_and_nil q | false => exact q) fun _ _ x => x)
      | Or => exact isTrue_or (wpAny_mono this (fun c s' q => by cases c with | false => exact isTrue_or_nil q | true => exact q) fun _ _ x => x)
    | @cons y cy es cs hy hes =>
      simp only [foldBool, Option.map_eq_some_iff] at e
      obtain ⟨r, e1, rfl⟩ := e
      obtain ⟨ih1, ih2⟩ := ih e1
      cases op with
      | And =>
        constructor
        · intro env ρ f X σ s A st hne
          simp only [show (BoolOp.And == BoolOp.And) = true from rfl, if_true] at hne ⊢
          rw [x_and] at hne ⊢
          refine BoolOp_and ?_
          refine Sim.goQ (P' := PV S X) (hx.eo env ρ f X σ s A st) hne (fun _ _ x => x) (fun _ _ x => x) fun va a' σ₁ g₁ s₁ hne hg k L ra hQ hE => ?_
          refine zFX L ra hne fun t s₂ ht e hne => ?_
          rw [ht] at hQ hE
          cases t with
          | true => exact wpAny_mono (ih1 env ρ _ X σ₁ s₂ A ((st.keep hg k L).moved e) hne) (fun v s3 q3 => hQ v s3 (.moved e q3)) fun v s3 q3 => hE v s3 (.moved e q3)
          | false => exact hQ _ _ (.leaf L e (e.vr ra))
        · intro env ρ f X σ s A st hne
          simp only [show (BoolOp.And == BoolOp.And) = true from rfl, if_true] at hne ⊢
          have key : ((evE F q (.and cx r) ρ σ).bind fun v σ => R.lift σ (truthy σ v)) = ((evE F q cx ρ σ).bind fun v σ => R.lift σ (truthy σ v)).bind fun t σ => if t then (evE F q r ρ σ).bind fun v σ => R.lift σ (truthy σ v) else .ok false σ := by
            rw [x_and, R.bind_assoc, R.bind_assoc]
            congr 1
            funext v σ'
            rw [R.bind_assoc]
            cases ht : truthy σ' v with
            | none => simp
            | some t => cases t <;> simp [ht]
          rw [key] at hne ⊢
          refine isTrue_and ?_
          refine Sim.goQ (P' := fun b t _ _ => b = t) (hx.to env ρ f X σ s A st) hne (fun _ _ x => x) (fun _ _ x => x) fun va a' σ₁ g₁ s₁ hne hg k L ra hQ hE => ?_
          have ra : va = a' := ra
          subst ra
          cases va with
          | true => exact wpAny_mono (ih2 env ρ _ X σ₁ s₁ A (st.keep hg k L) hne) hQ hE
          | false => exact hQ _ _ (.bool L (.refl s₁))
      | Or =>
        constructor
        · intro env ρ f X σ s A st hne
          simp only [show (BoolOp.Or == BoolOp.And) = false from rfl, Bool.false_eq_true, if_false] at hne ⊢
          rw [x_or] at hne ⊢
          refine BoolOp_or ?_
          refine Sim.goQ (P' := PV S X) (hx.eo env ρ f X σ s A st) hne (fun _ _ x => x) (fun _ _ x => x) fun va a' σ₁ g₁ s₁ hne hg k L ra hQ hE => ?_
          refine zFX L ra hne fun t s₂ ht e hne => ?_
          rw [ht] at hQ hE
          cases t with
          | false => exact wpAny_mono (ih1 env ρ _ X σ₁ s₂ A ((st.keep hg k L).moved e) hne) (fun v s3 q3 => hQ v s3 (.moved e q3)) fun v s3 q3 => hE v s3 (.moved e q3)
          | true => exact hQ _ _ (.leaf L e (e.vr ra))
        · intro env ρ f X σ s A st hne
          simp only [show (BoolOp.Or == BoolOp.And) = false from rfl, Bool.false_eq_true, if_false] at hne ⊢
          have key : ((evE F q (.or cx r) ρ σ).bind fun v σ => R.lift σ (truthy σ v)) = ((evE F q cx ρ σ).bind fun v σ => R.lift σ (truthy σ v)).bind fun t σ => if t then .ok true σ else (evE F q r ρ σ).bind fun v σ => R.lift σ (truthy σ v) := by
            rw [x_or, R.bind_assoc, R.bind_assoc]
            congr 1
            funext v σ'
            rw [R.bind_assoc]
            cases ht : truthy σ' v with
            | none => simp
            | some t => cases t <;> simp [ht]
          rw [key] at hne ⊢
          refine isTrue_or ?_
          refine Sim.goQ (P' := fun b t _ _ => b = t) (hx.to env ρ f X σ s A st) hne (fun _ _ x => x) (fun _ _ x => x) fun va a' σ₁ g₁ s₁ hne hg k L ra hQ hE => ?_
          have ra : va = a' := ra
          subst ra
          cases va with
          | false => exact wpAny_mono (ih2 env ρ _ X σ₁ s₁ A (st.keep hg k L) hne) hQ hE
          | true => exact hQ _ _ (.bool L (.refl s₁))
end
end Mine
end

/-! # Expr4 -/
section
set_option autoImplicit false
namespace Mine
open PySem PyProof.Rows
section
variable {S : Stat} {C : Ctx} {T : Nat → Option Fn} {F : Calls} {q : Bool} {d : Nat} {Γ : List Str} {sc : Scope}
variable {X : List Addr} {f : List Loc} {σ : Sto} {s : Shared} {A : Around} {E : Value → Shared → Prop}
theorem LOk.of {es : List Expr} {cs : List CE} (h : All2 (GOk S F q d Γ sc) es cs) : LOk S F q d Γ sc es cs := by
  refine ⟨?_, ?_⟩
  · induction h with
    | nil => rfl
    | cons hx _ ih => rw [List.any_cons, hx.star, ih]; rfl
  · induction h with
    | nil =>
      intro env pos ρ f X σ s A st _
      rw [x_nil]
      exact wpAny_pure ⟨[], σ, [], rfl, .nil s, .refl f [] s, by rw [List.append_nil]; exact st.lk, (by show VRs S X _ s.heap [] []; rw [VRs]; trivial)⟩
    | @cons x c es cs hx _ ih =>
      intro env pos ρ f X σ s A st hne
      rw [zHT] at hne ⊢
      rw [zAQ hx.star]
      show wpAny _ _ (spliced ((false, eval x env) :: backTo pos (starEach es env))) _ _ _
      refine Calls.spliced_cons ?_
      refine Sim.goQ (P' := fun vs xs f s => VRs S X f s.heap xs vs) (hx.eo env ρ f X σ s A st) hne (fun _ _ x => x) (fun _ _ x => x) fun va a' σ₁ g₁ s₁ hne hg k L ra hQ hE => ?_
      refine Sim.goQ (P' := fun vs xs f s => VRs S X f s.heap xs vs) (ih env pos ρ _ X σ₁ s₁ A (st.keep hg k L)) hne hQ hE fun vs xs σ₂ g₂ s₂ hne hg₂ k₂ L₂ rs hQ hE => ?_
      refine hQ _ _ (QS.here L₂ ?_)
      show VRs S X _ s₂.heap (a' :: xs) (va :: vs)
      rw [VRs]
      exact ⟨VR.keepK k₂ hg₂ (fun _ h => nomatch h) ra, rs⟩
theorem evL_len : ∀ {cs : List CE} {ρ : List V} {σ σ' : Sto} {vs : List V}, evL F q cs ρ σ = .ok vs σ' → vs.length = cs.length
  | [], ρ, σ, σ', vs, h => by rw [x_nil] at h; cases h; rfl
  | c :: cs, ρ, σ, σ', vs, h => by
    rw [zHT] at h
    cases h1 : evE F q c ρ σ with
    | ok v σ₁ =>
      rw [h1, R.bind_ok] at h
      cases h2 : evL F q cs ρ σ₁ with
      | ok ws σ₂ => rw [h2, R.bind_ok] at h; cases h; simp [evL_len h2]
      | exc _ _ => rw [h2] at h; first | exact zAA h | exact ff_tt h | cases h
      | stuck => rw [h2] at h; first | exact zAA h | exact ff_tt h | cases h
    | exc _ _ => rw [h1] at h; first | exact zAA h | exact ff_tt h | cases h
    | stuck => rw [h1] at h; first | exact zAA h | exact ff_tt h | cases h
theorem All2.len {α β : Type} {P : α → β → Prop} {as : List α} {bs : List β} (h : All2 P as bs) : as.length = bs.length := by
  induction h with
  | nil => rfl
  | cons _ _ ih => simp [ih]
theorem LOk.go {es : List Expr} {cs : List CE} {env : Env} {pos : Pos} {ρ : List V} {rk : List V → Sto → R V} {W : List Value → Shared → Prop} {Q' E' : Value → Shared → Prop} (h : LOk S F q d Γ sc es cs) (st : St S q d Γ sc env ρ f X σ s A) (hne : (evL F q cs ρ σ).bind rk ≠ .stuck)
    (hQ : ∀ c s'', QN S X [] f s ((evL F q cs ρ σ).bind rk) c s'' → Q' c s'') (hE : ∀ e s'', ES S X [] f false s ((evL F q cs ρ σ).bind rk) e s'' → E' e s'')
    (hk : ∀ vs xs σ' g s', xs.length = cs.length → rk xs σ' ≠ .stuck → Fresh g s → Kp f [] s s' → Lk S X (f ++ g) σ' s'.heap → VRs S X (f ++ g) s'.heap xs vs → (∀ c s'', QN S X [] (f ++ g) s' (rk xs σ') c s'' → Q' c s'') →
      (∀ e s'', ES S X [] (f ++ g) false s' (rk xs σ') e s'' → E' e s'') → W vs s') : wpAny (model S.prog S.w) A (spliced (backTo pos (starEach es env))) W E' s := by
  have hr : evL F q cs ρ σ ≠ .stuck := fun e => hne (by rw [e]; rfl)
  refine wpAny_mono (h.2 env pos ρ f X σ s A st hr) (fun a s' p => ?_) fun e s' p => hE e s' ?_
  · obtain ⟨b, σ', g, e, hg, k, L, p⟩ := p
    have hl := evL_len e
    rw [e] at hne hQ hE
    exact hk a b σ' g s' hl hne hg k L p (fun c s'' x => hQ c s'' (QN.lifts f g s s' _ c s'' hg k x)) fun e s'' x => hE e s'' (ES.lifts f g s s' _ e s'' hg k x)
  · obtain ⟨c, σ', g, ea, e1, e2, hg, k, L, x⟩ := p
    exact ⟨c, σ', g, ea, e1, by rw [e2]; rfl, hg, k, L, x⟩
theorem ok_list {es : List Expr} {cs : List CE} {pos : Pos} (hl : es.length ≤ 1000) (h : All2 (GOk S F q d Γ sc) es cs) : NOk S F q d Γ sc (.List es pos) (.list cs) := fun env ρ f X σ s A st hne => by
  rw [x_list] at hne ⊢
  refine wpAny_List ?_
  refine LOk.go (.of h) st hne (fun _ _ x => x) (fun _ _ x => x) fun vs xs σ₁ g s₁ hlen hne hg k L rs hQ hE => ?_
  have : xs.length ≤ 1000 := by rw [hlen, ← h.len]; exact hl
  have h2 : vs.length ≤ LIM := by rw [← zBE rs]; unfold LIM; omega
  refine ⟨Nat.le_trans h2 zAO, hQ _ _ (PE.here L ?_)⟩
  exact zBC (tk := s₁.toks) L rs (by unfold LIM; omega)
theorem ok_tuple {es : List Expr} {cs : List CE} {pos : Pos} {k : Nat} (hl : es.length ≤ 1000) (h : All2 (GOk S F q d Γ sc) es cs) : EOk S F q d Γ sc (.Tuple es k pos) (.tup cs) := fun env ρ f X σ s A st hne => by
  rw [x_tup] at hne ⊢
  refine wpAny_Tuple ?_
  refine LOk.go (.of h) st hne (fun _ _ x => x.qs) (fun _ _ x => x) fun vs xs σ₁ g s₁ hlen hne hg k L rs hQ hE => ?_
  have : xs.length ≤ 1000 := by rw [hlen, ← h.len]; exact hl
  have h2 : vs.length ≤ LIM := by rw [← zBE rs]; unfold LIM; omega
  refine ⟨Nat.le_trans h2 zAO, hQ _ _ (PE.here L ?_)⟩
  exact zBV (tk := s₁.toks) L rs (by unfold LIM; omega)
theorem sub_ops (slice : Expr) (o i : Value) : ∃ ops, subscripted slice false o i = operate ops (getItem o i) := by
  unfold subscripted
  split
  · exact ⟨_, rfl⟩
  · rename_i h; cases h
  · exact ⟨_, rfl⟩
theorem zDI {value slice : Expr} {o i : Value} {K id : String} {Q : Value → Shared → Prop} (hT : s.TypeIs o K)
    (hl : typeLookup (.type K) "__getitem__" = pure (some (.builtin id))) (h : wpAny (model S.prog S.w) A (getItem o i) Q E s) :
    wpAny (model S.prog S.w) A (subscriptTail value slice o i) Q E s := by
  obtain ⟨ops, hs⟩ := sub_ops slice o i
  unfold subscriptTail
  refine wpAny_bind ?_
  rw [getitemInPython_of_ne hT.not_modules]
  refine wpAny_bind (wpAny_specialOf hT hl ?_)
  have fin : wpAny (model S.prog S.w) A (subscripted slice false o i) (fun r s₃ => wpAny (model S.prog S.w) A (letTemporaryGo value o r >>= fun _ => pure r) Q E s₃) E s := by
    rw [hs]
    exact wpAny_operating (wpAny_mono h (fun r s₃ h₃ => wpAny_bind (wpAny_letTemporaryGo (wpAny_pure h₃))) fun _ _ x => x)
  first
    | exact wpAny_pure (wpAny_bind fin)
    | exact wpAny_bind (wpAny_pure (wpAny_bind fin))
    | exact wpAny_bind fin
theorem index_type (fs : Facts S C T) {a b x : V} {va : Value} (L : Lk S X f σ s.heap) (e : ev2 .index σ a b = some x) (ra : VR S X f s.heap a va) :
    ∃ K id, s.TypeIs va K ∧ typeLookup (.type K) "__getitem__" = pure (some (.builtin id)) := by
  have seq : ∀ {xs : List V}, itemsOf σ a = some xs → ∃ K id, s.TypeIs va K ∧ typeLookup (.type K) "__getitem__" = pure (some (.builtin id)) := by
    intro xs h1
    obtain ⟨p, vs, n, rfl, il | il, _⟩ := zCl L h1 ra
    · exact ⟨"list", _, ⟨_, il, rfl⟩, slot_list_getitem.lookup⟩
    · exact ⟨"tuple", _, ⟨_, il, rfl⟩, slot_tuple_getitem.lookup⟩
  cases a with
  | str y => obtain ⟨⟨t, rfl⟩, _⟩ := zAY ra; exact ⟨"str", _, typeIs_str s y t, F.slot_str_getitem.lookup⟩
  | parts =>
    rw [VR] at ra
    obtain ⟨hh, rfl⟩ := ra
    obtain ⟨d, g, e1, hd, hm, _⟩ := L.parts fs hh
    rw [e1]
    exact ⟨"dict", _, hm.typeIs, slot_dict_getitem.lookup⟩
  | tup xs => exact seq rfl
  | lst xs => exact seq rfl
  | ref n =>
    cases b with
    | int i =>
      delta ev2 at e; dsimp only at e
      split at e
      · rename_i xs ho
        exact seq (xs := xs) (by simp only [itemsOf, ho])
      · rename_i es ho
        rw [VR] at ra
        obtain ⟨l, hl, rfl⟩ := ra
        have := L.obj n l _ hl ho
        obtain ⟨p, dd⟩ := l
        cases dd with
        | none => obtain ⟨kvs, hd, _⟩ := this; exact ⟨"dict", _, hd.typeIs, slot_dict_getitem.lookup⟩
        | some dd => exact this.elim
      · first | exact zAA e | exact ff_tt e | cases e
    | _ => first | exact zAA e | exact ff_tt e | cases e
  | _ => cases b <;> cases e
theorem ok_index (fs : Facts S C T) {o i : Expr} {a b : CE} {pos : Pos} (ho : EOk S F q d Γ sc o a) (hi : EOk S F q d Γ sc i b) : EOk S F q d Γ sc (.Subscript o i pos) (.p2 .index a b) :=
  ok_p2 (t := fun v w => subscriptTail o i v w) (by simp [loud2]) ho hi (fun env A Q E s h => Subscript_ h) fun X f σ s A E a b x va vb _ _ L hx ra rb => by
    obtain ⟨K, id, h1, h2⟩ := index_type fs L hx ra
    exact zDI h1 h2 (zHA (L.parts fs) L hx ra rb)
noncomputable def PO (x : Value) (i : Option Int) (_ : List Loc) (_ : Shared) : Prop := IsPart x i
theorem ok_part {e : Option Expr} {c : Option CE} (h : (e = none ∧ c = none) ∨ ∃ e' c', e = some e' ∧ c = some c' ∧ EOk S F q d Γ sc e' c') (env : Env) (ρ : List V) (st : St S q d Γ sc env ρ f X σ s A) :
    Sim S A X [] f PO (evalPart e env) (evO F q c ρ σ) s := fun hne => by
  rcases h with ⟨rfl, rfl⟩ | ⟨e', c', rfl, rfl, h⟩
  · rw [evalPart_none, x_onone]
    exact wpAny_pure (QS.here st.lk .none)
  · rw [evalPart_some]
    rw [zFC] at hne ⊢
    refine Sim.goQ (P' := PO) (h env ρ f X σ s A st) hne (fun _ _ x => x) (fun _ _ x => x) fun va a' σ₁ g₁ s₁ hne hg k L ra hQ hE => ?_
    cases a' with
    | int i => obtain ⟨t, rfl⟩ := zAU ra; exact hQ _ _ (QS.here L (.int i t))
    | _ => exact absurd rfl hne
theorem slice_tail {o slice : Expr} {x a : V} {va vl vh : Value} {sl : Addr} {l' h' : Option Int} (L : Lk S X f σ s.heap) (hx : evSlice σ a l' h' = some x) (ra : VR S X f s.heap a va) (hs : s.heap.IsSliceOf sl vl vh .none) (rl : IsPart vl l') (rh : IsPart vh h') :
    wpAny (model S.prog S.w) A (subscriptTail o slice va (.ref sl)) (PE S X f s x) E s := by
  have seq : ∀ {xs : List V}, listOf? σ a = some xs → x = .lst (sliceL xs l' h') → wpAny (model S.prog S.w) A (subscriptTail o slice va (.ref sl)) (PE S X f s x) E s := by
    intro xs h1 h2
    subst h2
    obtain ⟨p, vs, n, rfl, il, rs, hlen⟩ := zAV L h1 ra
    exact zDI (K := "list") ⟨_, il, rfl⟩ slot_list_getitem.lookup (zDH L il rs hlen hs rl rh)
  cases a with
  | tup xs =>
    cases hx
    obtain ⟨p, vs, n, rfl, hp, il, rs, hlen⟩ := zBg ra
    exact zDI (K := "tuple") ⟨_, il, rfl⟩ slot_tuple_getitem.lookup (zCn L hp il rs hlen hs rl rh)
  | lst xs => cases hx; exact seq rfl rfl
  | str y =>
    have hx : (if PyData.strOk (Txt.slice y l' h') = true then some (V.str (Txt.slice y l' h')) else none) = some x := hx
    by_cases hok : PyData.strOk (Txt.slice y l' h') = true
    · rw [if_pos hok] at hx
      cases hx
      obtain ⟨⟨t, rfl⟩, l1, l2⟩ := zAY ra
      exact zDI (K := "str") (typeIs_str _ _ _) slot_str_getitem.lookup (zDm l1 hok hs rl rh)
    · rw [if_neg hok] at hx; exact zAA hx
  | ref n =>
    delta evSlice at hx; dsimp only at hx; simp only [Option.map_eq_some_iff] at hx
    obtain ⟨xs, h1, h2⟩ := hx
    exact seq h1 h2.symm
  | _ => first | exact zAA hx | exact ff_tt hx | cases hx
theorem ok_slice {o : Expr} {lo hi : Option Expr} {a : CE} {cl ch : Option CE} {p pos : Pos} (ho : EOk S F q d Γ sc o a) (hl : (lo = none ∧ cl = none) ∨ ∃ e' c', lo = some e' ∧ cl = some c' ∧ EOk S F q d Γ sc e' c')
    (hh : (hi = none ∧ ch = none) ∨ ∃ e' c', hi = some e' ∧ ch = some c' ∧ EOk S F q d Γ sc e' c') : NOk S F q d Γ sc (.Subscript o (.Slice lo hi none p) pos) (.slice a cl ch) := fun env ρ f X σ s A st hne => by
  rw [x_slice] at hne ⊢
  refine Subscript_ ?_
  refine Sim.goN (ho env ρ f X σ s A st) hne (fun _ _ x => x) (fun _ _ x => x) fun va a' σ₁ g₁ s₁ hne hg k L ra hQ hE => ?_
  have st₁ := st.keep hg k L
  refine wpAny_Slice ?_
  refine Sim.goN (ok_part hl env ρ st₁) hne hQ hE fun vl l' σ₂ g₂ s₂ hne hg₂ k₂ L₂ rl hQ hE => ?_
  have st₂ := st₁.keep hg₂ k₂ L₂
  have ra₂ := VR.keepK k₂ hg₂ (fun _ h => nomatch h) ra
  refine Sim.goN (ok_part hh env ρ st₂) hne hQ hE fun vh h' σ₃ g₃ s₃ hne hg₃ k₃ L₃ rh hQ hE => ?_
  have ra₃ := VR.keepK k₃ hg₃ (fun _ h => nomatch h) ra₂
  rw [evalPart_none]
  refine wpAny_pure ?_
  obtain ⟨x, hx⟩ := zAb hne
  rw [hx] at hQ
  have ee := Ext.push s₃ { cls := .type "slice", data := .fields #[vl, vh, .none] }
  have L₄ := ee.lk L₃
  have ra₄ := ee.vr ra₃
  have hs := Heap.IsSliceOf.new s₃.heap vl vh .none
  exact wpAny_mono (slice_tail L₄ hx ra₄ hs rl rh) (fun v s' p => hQ v s' (QN.moved ee (p.here L₄))) fun _ _ x => x
end
end Mine
end

/-! # Expr5 -/
section
set_option autoImplicit false
namespace Mine
open PySem PyProof.Rows
theorem zAG {β : Type} {x : Str} {y : β} : ∀ {l : List (Str × β)}, l.lookup x = some y → (x, y) ∈ l
  | [], h => by simp at h
  | (a, b) :: r, h => by
    rw [List.lookup_cons] at h
    split at h
    · rename_i e
      have := eq_of_beq e
      cases h; subst this
      exact List.mem_cons_self
    · exact List.mem_cons_of_mem _ (zAG h)
theorem bb_len : bootBuiltins "len" = some (.builtin "len") := by kernel_rfl
theorem bb_abs : bootBuiltins "abs" = some (.builtin "abs") := by kernel_rfl
theorem bb_all : bootBuiltins "all" = some (.builtin "all") := by kernel_rfl
theorem bb_ve : bootBuiltins "ValueError" = some (.type "ValueError") := by kernel_rfl
theorem bb_int : bootBuiltins "int" = some (.type "int") := by kernel_rfl
theorem bb_bool : bootBuiltins "bool" = some (.type "bool") := by kernel_rfl
theorem bb_str : bootBuiltins "str" = some (.type "str") := by kernel_rfl
theorem bb_list : bootBuiltins "list" = some (.type "list") := by kernel_rfl
theorem bb_tuple : bootBuiltins "tuple" = some (.type "tuple") := by kernel_rfl
theorem bb_sum : bootBuiltins "sum" = some (.builtin "sum") := by kernel_rfl
theorem bb_min : bootBuiltins "min" = some (.builtin "min") := by kernel_rfl
theorem bb_strT : bootBuiltins "str" = some (.type "str") := by kernel_rfl
theorem bb_max : bootBuiltins "max" = some (.builtin "max") := by kernel_rfl
theorem zCm : bootBuiltins "isinstance" = some (.builtin "isinstance") := by kernel_rfl
theorem bb_range : bootBuiltins "range" = some (.type "range") := by kernel_rfl
section
variable {S : Stat} {C : Ctx} {T : Nat → Option Fn} {F : Calls} {q : Bool} {d : Nat} {Γ : List Str} {sc : Scope}
variable {X : List Addr} {f : List Loc} {σ : Sto} {s : Shared} {A : Around} {E : Value → Shared → Prop}
theorem zAf (fs : Facts S C T) {x : Str} {p : Pos} {v : Value} {env : Env} {ρ : List V} {Q : Value → Shared → Prop} (st : St S q d Γ sc env ρ f X σ s A) (hg : isGlob sc x = true) (hn : C.fns.lookup x = none)
    (hx : x ∈ b1Names.map (·.1) ∨ x ∈ b2Names.map (·.1) ∨ x ∈ kindNames.map (·.1) ∨ x = ("isinstance" : Str) ∨ x = ("range" : Str)) (hv : bootBuiltins x = some v) (hd : (x == ("__debug__" : Str)) = false) (h : Q v s) : wpAny (model S.prog S.w) A (eval (.Name x p) env) Q E s := by
  obtain ⟨mg, mb, g1, g2, g3, g4, g5, _⟩ := fs.g
  obtain ⟨e1, e2⟩ := g5 x hx hn
  refine wpAny_Name ?_ hd
  exact zDD st.fr.kind (st.fr.isGlob hg) (by rw [st.fr.glob]; exact st.lk.ns g1) e1 (by rw [st.fr.blt]; exact st.lk.ns g2) (e2.trans hv) h
theorem spliced1 {env : Env} {e : Expr} {pos : Pos} {Q : List Value → Shared → Prop} (hs : isStar e = false) (h : wpAny (model S.prog S.w) A (eval e env) (fun v s' => Q [v] s') E s) : wpAny (model S.prog S.w) A (spliced (backTo pos (starEach [e] env))) Q E s := by
  rw [zAQ hs]
  show wpAny _ _ (spliced ((false, eval e env) :: [])) _ _ _
  exact Calls.spliced_cons (wpAny_mono h (fun v s' q => wpAny_pure q) fun _ _ x => x)
theorem spliced2 {env : Env} {e e2 : Expr} {pos : Pos} {Q : List Value → Shared → Prop} (hs : isStar e = false) (hs2 : isStar e2 = false) (h : wpAny (model S.prog S.w) A (eval e env) (fun v s' => wpAny (model S.prog S.w) A (eval e2 env) (fun w s'' => Q [v, w] s'') E s') E s) :
    wpAny (model S.prog S.w) A (spliced (backTo pos (starEach [e, e2] env))) Q E s := by
  rw [zAQ hs, zAQ hs2]
  show wpAny _ _ (spliced ((false, eval e env) :: (false, eval e2 env) :: [])) _ _ _
  exact Calls.spliced_cons (wpAny_mono h (fun v s' q => Calls.spliced_cons (wpAny_mono q (fun w s'' q => wpAny_pure q) fun _ _ x => x)) fun _ _ x => x)
theorem zAR {v : Value} (h : ∀ a, v ≠ .ref a) : Callable s v := .inl h
theorem zCA (fs : Facts S C T) {x : Str} {p pos : Pos} {v : Value} {e : Expr} {c : CE} {o : P1} (hg : isGlob sc x = true) (hn : C.fns.lookup x = none)
    (hx : x ∈ b1Names.map (·.1)) (hv : bootBuiltins x = some v) (hd : (x == ("__debug__" : Str)) = false) (hr : ∀ a, v ≠ .ref a) (h : GOk S F q d Γ sc e c)
    (op : ∀ (X : List Addr) (f : List Loc) (σ : Sto) (s : Shared) (A : Around) (E : Value → Shared → Prop) (a x : V) (va : Value), (loud1 o && q) = false → (q = false → A.handled = none) → Lk S X f σ s.heap → ev1 o σ a = some x → VR S X f s.heap a va → wpAny (model S.prog S.w) A (call v [va]) (PE S X f s x) E s) :
    NOk S F q d Γ sc (.Call (.Name x p) [e] [] pos) (.p1 o c) := fun env ρ f X σ s A st hne => by
  rw [x_p1] at hne ⊢
  by_cases hq : (loud1 o && q) = true
  · rw [if_pos hq] at hne; exact absurd rfl hne
  rw [if_neg hq] at hne ⊢
  refine wpAny_Call_NameR (zAf fs st hg hn (.inl hx) hv hd ?_)
  refine zAP (zAK _ (by simp [h.star])) (spliced1 h.star ?_)
  refine Sim.goN (h.eo env ρ f X σ s A st) hne (fun _ _ x => x) (fun _ _ x => x) fun va a' σ₁ g₁ s₁ hne hg k L ra hQ hE => ?_
  obtain ⟨x, hx⟩ := zAb hne
  rw [hx] at hQ
  exact ⟨zAR hr, wpAny_mono (op X _ σ₁ s₁ A _ a' x va (by simpa using hq) st.cx.hand L hx ra) (fun v s' p => hQ v s' (p.here L)) fun _ _ x => x⟩
theorem hand_of {o : P1} (hl : loud1 o = true) (h1 : (loud1 o && q) = false) (h2 : q = false → A.handled = none) : A.handled = none := h2 (by rw [hl, Bool.true_and] at h1; exact h1)
theorem ok_b1 (fs : Facts S C T) {x : Str} {p pos : Pos} {e : Expr} {c : CE} {o : P1} (hg : isGlob sc x = true) (hn : C.fns.lookup x = none) (ho : b1Names.lookup x = some o) (h : GOk S F q d Γ sc e c) :
    NOk S F q d Γ sc (.Call (.Name x p) [e] [] pos) (.p1 o c) := by
  have hm := zAG ho
  have hm' : x ∈ b1Names.map (·.1) := List.mem_map_of_mem hm
  simp only [b1Names, List.mem_cons, Prod.mk.injEq, List.not_mem_nil, or_false] at hm
  rcases hm with ⟨rfl, rfl⟩ | hm
  · exact zCA fs hg hn hm' bb_len (by decide) (by simp) h fun X f σ s A E a x va _ _ L hx ra => len_sound L hx ra
  rcases hm with ⟨rfl, rfl⟩ | hm
  · exact zCA fs hg hn hm' bb_all (by decide) (by simp) h fun X f σ s A E a x va h1 h2 L hx ra => all_sound (hand_of rfl h1 h2) L hx ra
  rcases hm with ⟨rfl, rfl⟩ | hm
  · exact zCA fs hg hn hm' bb_list (by decide) (by simp) h fun X f σ s A E a x va _ _ L hx ra => zFZ L hx ra
  rcases hm with ⟨rfl, rfl⟩ | hm
  · exact zCA fs hg hn hm' bb_tuple (by decide) (by simp) h fun X f σ s A E a x va _ _ L hx ra => zGj L hx ra
  obtain ⟨rfl, rfl⟩ := hm
  exact zCA fs hg hn hm' bb_sum (by decide) (by simp) h fun X f σ s A E a x va h1 h2 L hx ra => sum_sound (hand_of rfl h1 h2) L hx ra
theorem zHh (fs : Facts S C T) {x : Str} {p pos : Pos} {v : Value} {e e2 : Expr} {c c2 : CE} {o : P2} (hg : isGlob sc x = true) (hn : C.fns.lookup x = none)
    (hx : x ∈ b2Names.map (·.1)) (hv : bootBuiltins x = some v) (hd : (x == ("__debug__" : Str)) = false) (hr : ∀ a, v ≠ .ref a) (s1 : isStar e = false) (s2 : isStar e2 = false) (h : EOk S F q d Γ sc e c) (h2 : EOk S F q d Γ sc e2 c2)
    (op : ∀ (X : List Addr) (f : List Loc) (σ : Sto) (s : Shared) (A : Around) (E : Value → Shared → Prop) (a b x : V) (va vb : Value), (loud2 o && q) = false → (q = false → A.handled = none) → Lk S X f σ s.heap → ev2 o σ a b = some x → VR S X f s.heap a va → VR S X f s.heap b vb → wpAny (model S.prog S.w) A (call v [va, vb]) (PE S X f s x) E s) :
    EOk S F q d Γ sc (.Call (.Name x p) [e, e2] [] pos) (.p2 o c c2) := fun env ρ f X σ s A st hne => by
  rw [x_p2] at hne ⊢
  by_cases hq : (loud2 o && q) = true
  · rw [if_pos hq] at hne; exact absurd rfl hne
  rw [if_neg hq] at hne ⊢
  refine wpAny_Call_NameR (zAf fs st hg hn (.inr (.inl hx)) hv hd ?_)
  refine zAP (zAK _ (by simp [s1, s2])) (spliced2 s1 s2 ?_)
  refine Sim.goN (h env ρ f X σ s A st) hne (fun _ _ x => x.qs) (fun _ _ x => x) fun va a' σ₁ g₁ s₁ hne hg k L ra hQ hE => ?_
  refine Sim.goN (h2 env ρ _ X σ₁ s₁ A (st.keep hg k L)) hne hQ hE fun vb b' σ₂ g₂ s₂ hne hg₂ k₂ L₂ rb hQ hE => ?_
  obtain ⟨x, hx⟩ := zAb hne
  rw [hx] at hQ
  exact ⟨zAR hr, wpAny_mono (op X _ σ₂ s₂ A _ a' b' x va vb (by simpa using hq) st.cx.hand L₂ hx (VR.keepK k₂ hg₂ (fun _ h => nomatch h) ra) rb) (fun v s' p => hQ v s' (p.here L₂)) fun _ _ x => x⟩
theorem ok_b2 (fs : Facts S C T) {x : Str} {p pos : Pos} {e e2 : Expr} {c c2 : CE} {o : P2} (hg : isGlob sc x = true) (hn : C.fns.lookup x = none) (ho : b2Names.lookup x = some o) (s1 : isStar e = false) (s2 : isStar e2 = false) (h : EOk S F q d Γ sc e c) (h2 : EOk S F q d Γ sc e2 c2) :
    EOk S F q d Γ sc (.Call (.Name x p) [e, e2] [] pos) (.p2 o c c2) := by
  have hm := zAG ho
  have hm' : x ∈ b2Names.map (·.1) := List.mem_map_of_mem hm
  simp only [b2Names, List.mem_cons, Prod.mk.injEq, List.not_mem_nil, or_false] at hm
  rcases hm with ⟨rfl, rfl⟩ | ⟨rfl, rfl⟩
  · exact zHh fs hg hn hm' bb_min (by decide) (by simp) s1 s2 h h2 fun X f σ s A E a b x va vb h1 h2 L hx ra rb => by
      have hh : A.handled = none := h2 (by simpa [loud2] using h1)
      obtain ⟨i, j, rfl, rfl⟩ := zBv hx
      cases hx
      obtain ⟨t, rfl⟩ := zAU ra
      obtain ⟨u, rfl⟩ := zAU rb
      exact min2_sound hh
  · exact zHh fs hg hn hm' bb_max (by decide) (by simp) s1 s2 h h2 fun X f σ s A E a b x va vb h1 h2 L hx ra rb => by
      have hh : A.handled = none := h2 (by simpa [loud2] using h1)
      obtain ⟨i, j, rfl, rfl⟩ := zBv hx
      cases hx
      obtain ⟨t, rfl⟩ := zAU ra
      obtain ⟨u, rfl⟩ := zAU rb
      exact max2_sound hh
theorem ok_isinst (fs : Facts S C T) {k : Str} {p pk pos : Pos} {e : Expr} {c : CE} {kd : Kd} (hg : isGlob sc "isinstance" = true) (hn : C.fns.lookup ("isinstance" : Str) = none) (hk : kindOf? C k = some kd) (hgk : isGlob sc k = true) (hs : isStar e = false) (h : EOk S F q d Γ sc e c) :
    EOk S F q d Γ sc (.Call (.Name ("isinstance" : Str) p) [e, .Name k pk] [] pos) (.p1 (.isInst kd) c) := fun env ρ f X σ s A st hne => by
  rw [x_p1, show loud1 (.isInst kd) = false from rfl, Bool.false_and, if_neg (by simp)] at hne ⊢
  unfold kindOf? at hk
  split at hk
  · first | exact zAA hk | exact ff_tt hk | cases hk
  rename_i hnk
  have hnk : C.fns.lookup k = none := Option.not_isSome_iff_eq_none.mp hnk
  have hm := zAG hk
  have hm' : k ∈ kindNames.map (·.1) := List.mem_map_of_mem hm
  have hv : bootBuiltins k = some (.type (tyName kd)) ∧ (k == ("__debug__" : Str)) = false
      ∧ ∀ c, kd = .exc c → c = .ValueError := by
    simp only [kindNames, List.mem_cons, Prod.mk.injEq, List.not_mem_nil, or_false] at hm
    rcases hm with ⟨rfl, rfl⟩ | ⟨rfl, rfl⟩ | ⟨rfl, rfl⟩ | ⟨rfl, rfl⟩ | ⟨rfl, rfl⟩
      | ⟨rfl, rfl⟩
    · exact ⟨bb_int, by decide, by simp⟩
    · exact ⟨bb_bool, by decide, by simp⟩
    · exact ⟨bb_str, by decide, by simp⟩
    · exact ⟨bb_list, by decide, by simp⟩
    · exact ⟨bb_tuple, by decide, by simp⟩
    · exact ⟨bb_ve, by decide, fun c h => by cases h; rfl⟩
  refine wpAny_Call_NameR (zAf fs st hg hn (.inr (.inr (.inr (.inl rfl)))) zCm (by decide) ?_)
  refine zAP (zAK _ (by rw [List.any_cons, hs]; rfl)) (spliced2 hs rfl ?_)
  refine Sim.goN (h env ρ f X σ s A st) hne (fun _ _ x => x.qs) (fun _ _ x => x) fun va a' σ₁ g₁ s₁ hne hg k L ra hQ hE => ?_
  refine zAf fs (st.keep hg k L) hgk hnk (.inr (.inr (.inl hm'))) hv.1 hv.2.1 ?_
  obtain ⟨x, hx⟩ := zAb hne
  rw [hx] at hQ
  exact ⟨zAR (by simp), wpAny_mono (zGU hv.2.2 L hx ra) (fun v s' p => hQ v s' (p.here L)) fun _ _ x => x⟩
theorem ok_call (fs : Facts S C T) (FSs : FS S F q d) {x : Str} {n : Nat} {p pos : Pos} {es : List Expr} {cs : List CE} (hg : isGlob sc x = true) (hd : (x == ("__debug__" : Str)) = false) (hn : C.fns.lookup x = some n) (h : All2 (GOk S F q d Γ sc) es cs) :
    EOk S F q d Γ sc (.Call (.Name x p) es [] pos) (.call n cs) := fun env ρ f X σ s A st hne => by
  rw [x_call] at hne ⊢
  have hr : evL F q cs ρ σ ≠ .stuck := fun e => hne (by rw [e]; rfl)
  obtain ⟨mg, mb, g1, g2, g3, g4, _⟩ := fs.g
  refine wpAny_Call_NameR (wpAny_Name (zBF st.fr.kind (st.fr.isGlob hg) (by rw [st.fr.glob]; exact st.lk.ns g1) (g4 x n hn) ?_) hd)
  have hl := LOk.of h
  refine zAP (zAK _ hl.1) ?_
  refine Sim.goQ (P' := PV S X) (hl.2 env pos ρ f X σ s A st) hne (fun _ _ x => x) (fun _ _ x => x) fun vs xs σ₁ g₁ s₁ hne hg k L rs hQ hE => ?_
  obtain ⟨⟨o, fd, h1, h2⟩, h3⟩ := FSs n xs σ₁ _ X A s₁ vs (st.keep hg k L).cx.call L rs hne
  refine ⟨.inr ⟨_, o, fd, rfl, L.base _ _ h1, h2⟩, wpAny_call ?_⟩
  refine codeAny_mono h3 fun r s' hq => ?_
  match r, hq with
  | .ok (.ret v), hq => exact hQ v s' hq
  | .error e, hq => exact hE e s' hq
end
end Mine
end

/-! # Loop -/
section
set_option autoImplicit false
namespace Mine
open PySem PyProof.Rows
section
variable {S : Stat} {C : Ctx} {T : Nat → Option Fn} {F : Calls} {q : Bool} {d : Nat} {Γ : List Str} {sc : Scope}
variable {X X' Y Z : List Addr} {f g : List Loc} {σ : Sto} {s s' : Shared} {A : Around} {E : Value → Shared → Prop} {I a : Addr} {its : Items} {i : Nat}
structure Mv (I : Addr) (s s' : Shared) : Prop where
  rest : s' = { s with heap := s'.heap, toks := s'.toks }
  keep : ∀ b o, b ≠ I → s.heap.get? b = some o → s'.heap.get? b = some o
  live : ∃ o, s'.heap.get? I = some o
  dic : ∀ o es n, s.heap.get? I = some o → o.data = .dict es n → ∃ o' es' n', s'.heap.get? I = some o' ∧ o'.data = .dict es' n'
theorem Mv.kp (m : Mv I s s') (hI : I ∈ Y) : Kp f Y s s' :=
  ⟨m.rest, fun a o e => (by by_cases h : a = I
                            · rw [h]; exact m.live
                            · exact ⟨o, m.keep a o h e⟩), fun a o e _ h => ⟨o, m.keep a o (fun q => h (q ▸ hI)) e, .refl o⟩,
    fun a o es n e d _ => (by by_cases h : a = I
                              · subst h; exact m.dic o es n e d
                              · exact ⟨o, es, n, m.keep a o h e, d⟩)⟩
theorem Mv.vr (m : Mv I s s') (hI : I ∈ X) {x : V} {v : Value} (r : VR S X f s.heap x v) : VR S X f s'.heap x v :=
  VR.keep (fun _ _ e => e) (fun a o h h1 h2 => ⟨⟨h1, h2⟩, o, m.keep a o (fun q => h2 (q ▸ hI)) h, .refl o⟩) x v r
theorem Mv.vrs (m : Mv I s s') (hI : I ∈ X) {x : List V} {v : List Value} (r : VRs S X f s.heap x v) : VRs S X f s'.heap x v :=
  VRs.keep (fun _ _ e => e) (fun a o h h1 h2 => ⟨⟨h1, h2⟩, o, m.keep a o (fun q => h2 (q ▸ hI)) h, .refl o⟩) x v r
theorem Mv.lk (m : Mv I s s') (hI : I ∈ X) (L : Lk S X f σ s.heap) : Lk S X f σ s'.heap where
  base b o h := m.keep b o (fun q => by rw [q, (L.hid I hI).1] at h; cases h) (L.base b o h)
  len := L.len
  nodup := L.nodup
  fresh := L.fresh
  hid a ha := ⟨(L.hid a ha).1, (L.hid a ha).2.1, (by
    by_cases h : a = I
    · rw [h]; exact m.live
    · obtain ⟨o, e⟩ := (L.hid a ha).2.2; exact ⟨o, m.keep a o h e⟩)⟩
  obj i l o hi ho := (L.obj i l o hi ho).keep (fun _ _ => m.vr hI) (fun _ _ => m.vrs hI) fun a ha => by
    obtain ⟨ob, h⟩ := L.live (zAX hi ha)
    rw [h]; exact m.keep a ob (fun q => (L.hid I hI).2.1 (q ▸ zAX hi ha)) h
theorem VR.drop {h h' : Heap} (hX : ∀ a ∈ X', a ∈ X) (hZ : ∀ a ∈ Z, a ∈ X) (k : ∀ b o, b ∉ Z → h.get? b = some o → h'.get? b = some o) {x : V} {v : Value} (r : VR S X f h x v) : VR S X' f h' x v :=
  VR.keep (fun _ _ e => e) (fun a o h h1 h2 => ⟨⟨h1, fun q => h2 (hX a q)⟩, o, k a o (fun q => h2 (hZ a q)) h, .refl o⟩) x v r
theorem VRs.drop {h h' : Heap} (hX : ∀ a ∈ X', a ∈ X) (hZ : ∀ a ∈ Z, a ∈ X) (k : ∀ b o, b ∉ Z → h.get? b = some o → h'.get? b = some o) {x : List V} {v : List Value} (r : VRs S X f h x v) : VRs S X' f h' x v :=
  VRs.keep (fun _ _ e => e) (fun a o h h1 h2 => ⟨⟨h1, fun q => h2 (hX a q)⟩, o, k a o (fun q => h2 (hZ a q)) h, .refl o⟩) x v r
theorem Lk.drop {h h' : Heap} (L : Lk S X f σ h) (hX : ∀ a ∈ X', a ∈ X ∧ a ∉ Z) (hZ : ∀ a ∈ Z, a ∈ X) (k : ∀ b o, b ∉ Z → h.get? b = some o → h'.get? b = some o) : Lk S X' f σ h' where
  base b o q := k b o (fun z => by rw [(L.hid b (hZ b z)).1] at q; cases q) (L.base b o q)
  len := L.len
  nodup := L.nodup
  fresh := L.fresh
  hid a ha := ⟨(L.hid a (hX a ha).1).1, (L.hid a (hX a ha).1).2.1, let ⟨o, e⟩ := (L.hid a (hX a ha).1).2.2; ⟨o, k a o (hX a ha).2 e⟩⟩
  obj i l o hi ho := (L.obj i l o hi ho).keep (fun _ _ => VR.drop (fun a ha => (hX a ha).1) hZ k) (fun _ _ => VRs.drop (fun a ha => (hX a ha).1) hZ k) fun a ha => by
    obtain ⟨ob, h⟩ := L.live (zAX hi ha)
    rw [h]; exact k a ob (fun z => (L.hid a (hZ a z)).2.1 (zAX hi ha)) h
theorem Kp.drop {s₁ : Shared} (k : Kp f [] s s₁) (hg : Fresh g s) (k' : Kp (f ++ g) Y s₁ s') (hY : ∀ a ∈ Y, s.heap.get? a = none) : Kp f [] s s' where
  rest := by rw [k'.rest, k.rest]
  live a o e := let ⟨o₁, e₁⟩ := k.live a o e; k'.live a o₁ e₁
  kept a o e h1 h2 := by
    obtain ⟨o₁, e₁, q₁⟩ := k.kept a o e h1 h2
    obtain ⟨o₂, e₂, q₂⟩ := k'.kept a o₁ e₁ (fun h => (zAE.mp h).elim h1 (zAN hg e)) (fun h => by rw [hY a h] at e; cases e)
    exact ⟨o₂, e₂, q₁.trans q₂⟩
  dicts a o es n e d h1 := by
    obtain ⟨o₁, es₁, n₁, e₁, d₁⟩ := k.dicts a o es n e d h1
    exact k'.dicts a o₁ es₁ n₁ e₁ d₁ (fun h => (zAE.mp h).elim h1 (zAN hg e))
theorem Kp.ends {s₁ : Shared} (k : Kp f Y s s₁) (hr : s' = { s₁ with heap := s'.heap, toks := s'.toks }) (hk : ∀ b o, b ∉ Z → s₁.heap.get? b = some o → s'.heap.get? b = some o) (hZ : ∀ a ∈ Z, s.heap.get? a = none) : Kp f Y s s' where
  rest := by rw [hr, k.rest]
  live a o e := let ⟨o₁, e₁⟩ := k.live a o e; ⟨o₁, hk a o₁ (fun h => by rw [hZ a h] at e; cases e) e₁⟩
  kept a o e h1 h2 := by
    obtain ⟨o₁, e₁, q₁⟩ := k.kept a o e h1 h2
    exact ⟨o₁, hk a o₁ (fun h => by rw [hZ a h] at e; cases e) e₁, q₁⟩
  dicts a o es n e d h1 := by
    obtain ⟨o₁, es₁, n₁, e₁, d₁⟩ := k.dicts a o es n e d h1
    exact ⟨o₁, es₁, n₁, hk a o₁ (fun h => by rw [hZ a h] at e; cases e) e₁, d₁⟩
noncomputable def ItAt (S : Stat) (X : List Addr) (f : List Loc) (h : Heap) (I : Addr) : Items → Nat → Prop
  | .now xs, i => (∃ ax items n, h.IsListIter I ax i ∧ (ax ∉ addrs f ∧ ax ∉ X) ∧ IsL h ax items n ∧ VRs S X f h xs items.toList) ∨
      (∃ ax items n, h.IsTupleIter I ax i ∧ (ax ∉ addrs f ∧ ax ∉ X) ∧ IsT h ax items n ∧ VRs S X f h xs items.toList) ∨
      (∃ lo hi : Int, xs = rangeL lo hi ∧ IsRangeIter h I (lo + i) (((hi - lo).toNat : Int) - i) 1) ∨
      (∃ y t, xs = charsOf y ∧ y.cps.all (· < 128) = true ∧ h.IsStrIter I "str_ascii_iterator" y t i)
  | .live n, i => ∃ ax, f[n]? = some (ax, none) ∧ h.IsListIter I ax i
  | .keys _ _, _ => False
theorem rangeL_get {lo hi : Int} {x : V} (h : (rangeL lo hi)[i]? = some x) : x = .int (lo + i) ∧ i < (hi - lo).toNat := by
  simp only [rangeL, List.getElem?_map, Option.map_eq_some_iff] at h
  obtain ⟨k, hk, rfl⟩ := h
  have := List.getElem?_range (n := (hi - lo).toNat) (i := i)
  by_cases hlt : i < (hi - lo).toNat
  · rw [this hlt] at hk; cases hk; exact ⟨rfl, hlt⟩
  · rw [List.getElem?_eq_none (by simp; omega)] at hk; first | exact zAA hk | exact ff_tt hk | cases hk
theorem rangeL_end {lo hi : Int} (h : (rangeL lo hi)[i]? = none) : (hi - lo).toNat ≤ i := by
  simp only [rangeL, List.getElem?_map, Option.map_eq_none_iff] at h
  simpa using h
theorem zCk {h h' : Heap} {ax : Addr} (x : h.IsListIter I ax i) (k : ∀ o, h.get? I = some o → ∃ o', h'.get? I = some o' ∧ SameObj o o') : h'.IsListIter I ax i := by
  obtain ⟨o, e, c, dt⟩ := x
  obtain ⟨o', e', q⟩ := k o e
  exact ⟨o', e', q.cls.trans c, q.data.trans dt⟩
theorem zFW {h h' : Heap} {ax : Addr} (x : h.IsTupleIter I ax i) (k : ∀ o, h.get? I = some o → ∃ o', h'.get? I = some o' ∧ SameObj o o') : h'.IsTupleIter I ax i := by
  obtain ⟨o, e, c, dt⟩ := x
  obtain ⟨o', e', q⟩ := k o e
  exact ⟨o', e', q.cls.trans c, q.data.trans dt⟩
theorem zFb {h h' : Heap} {c : String} {y : Str} {t : Tok} (x : h.IsStrIter I c y t i) (k : ∀ o, h.get? I = some o → ∃ o', h'.get? I = some o' ∧ SameObj o o') : h'.IsStrIter I c y t i := by
  obtain ⟨o, e, c, dt⟩ := x
  obtain ⟨o', e', q⟩ := k o e
  exact ⟨o', e', q.cls.trans c, q.data.trans dt⟩
theorem zHO {y : Str} {x : V} (h : (charsOf y)[i]? = some x) : ∃ c, y.cps[i]? = some c ∧ x = .str ⟨#[c]⟩ := by
  unfold charsOf codes at h
  rw [List.getElem?_map] at h
  cases e : y.cps.toList[i]? with
  | none => rw [e] at h; first | exact zAA h | exact ff_tt h | cases h
  | some c => rw [e] at h; cases h; exact ⟨c, by rw [← Array.getElem?_toList]; exact e, rfl⟩
theorem zHP {y : Str} (h : (charsOf y)[i]? = none) : y.cps[i]? = none := by
  unfold charsOf codes at h
  rw [List.getElem?_map] at h
  cases e : y.cps.toList[i]? with
  | none => rw [← Array.getElem?_toList]; exact e
  | some c => rw [e] at h; first | exact zAA h | exact ff_tt h | cases h
theorem ItAt.keep {h h' : Heap} {f' : List Loc} (kf : ∀ (i : Nat) (l : Loc), f[i]? = some l → f'[i]? = some l)
    (kh : ∀ a o, h.get? a = some o → a ∉ addrs f → a ∉ X → (a ∉ addrs f' ∧ a ∉ X') ∧ ∃ o', h'.get? a = some o' ∧ SameObj o o')
    (kI : ∀ o, h.get? I = some o → ∃ o', h'.get? I = some o' ∧ SameObj o o') (x : ItAt S X f h I its i) : ItAt S X' f' h' I its i := by
  cases its with
  | now xs =>
    rcases x with ⟨ax, items, n, h1, h2, h3, h4⟩ | ⟨ax, items, n, h1, h2, h3, h4⟩ | ⟨lo, hi, h1, h2⟩ | ⟨y, t, h1, h2, h3⟩
    · obtain ⟨q1, o', q2, q3⟩ := kh ax _ h3 h2.1 h2.2
      exact .inl ⟨ax, items, n, zCk h1 kI, q1, q2.trans (congrArg some (q3.exact fun _ _ q => by cases q)), VRs.keep kf kh _ _ h4⟩
    · obtain ⟨q1, o', q2, q3⟩ := kh ax _ h3 h2.1 h2.2
      exact .inr (.inl ⟨ax, items, n, zFW h1 kI, q1, q2.trans (congrArg some (q3.exact fun _ _ q => by cases q)), VRs.keep kf kh _ _ h4⟩)
    · obtain ⟨o', q2, q3⟩ := kI _ h2
      exact .inr (.inr (.inl ⟨lo, hi, h1, q2.trans (congrArg some (q3.exact fun _ _ q => by cases q))⟩))
    · exact .inr (.inr (.inr ⟨y, t, h1, h2, zFb h3 kI⟩))
  | live n =>
    obtain ⟨ax, h1, h2⟩ := x
    exact ⟨ax, kf _ _ h1, zCk h2 kI⟩
  | keys _ _ => exact x.elim
theorem ItAt.keepK (k : Kp f [] s s') (hg : Fresh g s) (hI : I ∈ X) (hXf : ∀ a ∈ X, a ∉ addrs f) (x : ItAt S X f s.heap I its i) : ItAt S X (f ++ g) s'.heap I its i :=
  ItAt.keep (f := f) (f' := f ++ g) (X := X) (X' := X) (h := s.heap) (fun _ _ e => List.getElem?_append_left (List.getElem?_eq_some_iff.mp e).1 ▸ e)
    (fun a o ho h1 h2 => ⟨⟨fun h => (zAE.mp h).elim h1 (zAN hg ho), h2⟩, k.kept a o ho h1 fun h => nomatch h⟩) (fun o ho => k.kept I o ho (hXf I hI) fun h => nomatch h) x
theorem ItAt.mv (m : Mv a s s') (ha : a ∈ X) (hne : I ≠ a) (x : ItAt S X f s.heap I its i) : ItAt S X f s'.heap I its i :=
  ItAt.keep (fun _ _ e => e) (fun b o ho h1 h2 => ⟨⟨h1, h2⟩, o, m.keep b o (fun q => h2 (q ▸ ha)) ho, .refl o⟩) (fun o ho => ⟨o, m.keep I o hne ho, .refl o⟩) x
theorem ItAt.hideNew (e : Ext s s') (hn : s.heap.get? a = none) (x : ItAt S X f s.heap I its i) : ItAt S (a :: X) f s'.heap I its i :=
  ItAt.keep (fun _ _ e => e) (fun b ob q h1 h2 => ⟨⟨h1, fun h => (List.mem_cons.mp h).elim (fun h => by subst h; rw [hn] at q; cases q) h2⟩, ob, e.keep b ob q, .refl ob⟩) (fun o ho => ⟨o, e.keep I o ho, .refl o⟩) x
theorem zEV {h' : Heap} {t : Nat} {o : Obj} (hs : Heap.SameBut I s.heap h') (hl : h'.get? I = some o) (hd : ∀ o es n, s.heap.get? I = some o → o.data ≠ .dict es n) : Mv I s { s with heap := h', toks := t } :=
  ⟨rfl, fun b o hb e => (hs.2 b hb).trans e, ⟨o, hl⟩, fun o es n e d => absurd d (hd o es n e)⟩
inductive NextAt (S : Stat) (X : List Addr) (f : List Loc) (I : Addr) (its : Items) (i : Nat) (x : V) (s : Shared) (r : Option Value) (s' : Shared) : Prop
  | mk (v : Value) (e : r = some v) (m : Mv I s s') (it : ItAt S X f s'.heap I its (i + 1)) (rv : VR S X f s'.heap x v)
theorem zGO {x : V} (hI : I ∈ X) (L : Lk S X f σ s.heap) (it : ItAt S X f s.heap I its i) (hn : nextIt σ its i = some (some x)) :
    wpAny (model S.prog S.w) A (pyNext (.ref I)) (NextAt S X f I its i x s) E s := by
  cases its with
  | now xs =>
    have hx : xs[i]? = some x := by simpa [nextIt] using hn
    rcases it with ⟨ax, items, n, h1, h2, h3, h4⟩ | ⟨ax, items, n, h1, h2, h3, h4⟩ | ⟨lo, hi, rfl, h2⟩ | ⟨y, t, rfl, h2, h3⟩
    · obtain ⟨v, hv, rv⟩ := zBu h4 hx
      refine wpAny_pyNext_list_item h1 (IsL.isList h3) (by simpa using hv) fun h' hit' hs' => ?_
      obtain ⟨o1, e1, _, d1⟩ := id h1
      obtain ⟨o2, e2, _⟩ := id hit'
      have m : Mv I s { s with heap := h' } := zEV (t := s.toks) hs' e2 fun o es n e d => by rw [e1] at e; cases e; rw [d1] at d; cases d
      have hne : ax ≠ I := fun q => h2.2 (q ▸ hI)
      exact ⟨v, rfl, m, .inl ⟨ax, items, n, hit', h2, m.keep ax _ hne h3, m.vrs hI h4⟩, m.vr hI rv⟩
    · obtain ⟨v, hv, rv⟩ := zBu h4 hx
      refine wpAny_pyNext_tuple_item h1 ⟨_, h3, rfl, n, rfl⟩ (by simpa using hv) fun h' hit' hs' => ?_
      obtain ⟨o1, e1, _, d1⟩ := id h1
      obtain ⟨o2, e2, _⟩ := id hit'
      have m : Mv I s { s with heap := h' } := zEV (t := s.toks) hs' e2 fun o es n e d => by rw [e1] at e; cases e; rw [d1] at d; cases d
      have hne : ax ≠ I := fun q => h2.2 (q ▸ hI)
      exact ⟨v, rfl, m, .inr (.inl ⟨ax, items, n, hit', h2, m.keep ax _ hne h3, m.vrs hI h4⟩), m.vr hI rv⟩
    · obtain ⟨rfl, hlt⟩ := rangeL_get hx
      refine wpAny_pyNext_range_item h2 (by omega) fun h' hit' hs' => ?_
      have m : Mv I s { s with heap := h', toks := s.toks + 1 } := zEV hs' hit' fun o es n e d => by rw [h2] at e; cases e; cases d
      refine ⟨_, rfl, m, .inr (.inr (.inl ⟨lo, hi, rfl, ?_⟩)), by rw [VR]; exact ⟨_, rfl⟩⟩
      have e1 : lo + ((i + 1 : Nat) : Int) = lo + i + 1 := by omega
      have e2 : (((hi - lo).toNat : Int) - ((i + 1 : Nat) : Int)) = ((hi - lo).toNat : Int) - i - 1 := by omega
      rw [e1, e2]; exact hit'
    · obtain ⟨c, hc, rfl⟩ := zHO hx
      refine wpAny_pyNext_ascii_item h3 hc fun h' hit' hs' => ?_
      obtain ⟨o1, e1, _, d1⟩ := id h3
      obtain ⟨o2, e2, _⟩ := id hit'
      have m : Mv I s { s with heap := h', toks := s.toks + 1 } := zEV hs' e2 fun o es n e d => by rw [e1] at e; cases e; rw [d1] at d; cases d
      have hlt : c < 128 := by
        have := (Array.all_eq_true'.mp h2) c (Array.mem_of_getElem? hc)
        simpa using this
      refine ⟨_, rfl, m, .inr (.inr (.inr ⟨y, t, rfl, h2, hit'⟩)), ?_⟩
      rw [VR]
      refine ⟨⟨_, rfl⟩, by show 1 ≤ LIM; decide, ?_⟩
      show (#[c] : Array Nat).all (· < 0x110000) = true
      simp; omega
  | live n =>
    obtain ⟨ax, h1, h2⟩ := it
    delta nextIt at hn; dsimp only at hn
    split at hn
    · rename_i xs ho
      have hx : xs[i]? = some x := by simpa using hn
      obtain ⟨vs, k, il, rs, hl⟩ := L.obj n (ax, none) _ h1 ho
      obtain ⟨v, hv, rv⟩ := zBu rs hx
      refine wpAny_pyNext_list_item h2 (IsL.isList il) (by simpa using hv) fun h' hit' hs' => ?_
      obtain ⟨o1, e1, _, d1⟩ := id h2
      obtain ⟨o2, e2, _⟩ := id hit'
      have m : Mv I s { s with heap := h' } := zEV (t := s.toks) hs' e2 fun o es n e d => by rw [e1] at e; cases e; rw [d1] at d; cases d
      exact ⟨v, rfl, m, ⟨ax, h1, hit'⟩, m.vr hI rv⟩
    · first | exact zAA hn | exact ff_tt hn | cases hn
  | keys _ _ => exact it.elim
theorem zHi (hh : A.handled = none) (L : Lk S X f σ s.heap) (it : ItAt S X f s.heap I its i) (hn : nextIt σ its i = some none) :
    wpAny (model S.prog S.w) A (pyNext (.ref I)) (fun r s' => r = none ∧ s' = { s with heap := s'.heap, toks := s'.toks } ∧ ∀ b o, b ≠ I → s.heap.get? b = some o → s'.heap.get? b = some o) E s := by
  cases its with
  | now xs =>
    have hx : xs[i]? = none := by simpa [nextIt] using hn
    rcases it with ⟨ax, items, n, h1, h2, h3, h4⟩ | ⟨ax, items, n, h1, h2, h3, h4⟩ | ⟨lo, hi, rfl, h2⟩ | ⟨y, t, rfl, h2, h3⟩
    · have : items[i]? = none := by
        have z := zAJ h4
        rw [List.getElem?_eq_none_iff] at hx
        exact Array.getElem?_eq_none_iff.mpr (by omega)
      exact wpAny_pyNext_list_end hh h1 (IsL.isList h3) this fun h' he => ⟨rfl, rfl, he⟩
    · have : items[i]? = none := by
        have z := zAJ h4
        rw [List.getElem?_eq_none_iff] at hx
        exact Array.getElem?_eq_none_iff.mpr (by omega)
      exact wpAny_pyNext_tuple_end hh h1 ⟨_, h3, rfl, n, rfl⟩ this fun h' he => ⟨rfl, rfl, he⟩
    · have := rangeL_end hx
      exact wpAny_pyNext_range_end hh h2 (by omega) fun h' he => ⟨rfl, rfl, he⟩
    · exact wpAny_pyNext_ascii_end hh h3 (zHP hx) fun h' he => ⟨rfl, rfl, he⟩
  | live n =>
    obtain ⟨ax, h1, h2⟩ := it
    delta nextIt at hn; dsimp only at hn
    split at hn
    · rename_i xs ho
      have hx : xs[i]? = none := by simpa using hn
      obtain ⟨vs, k, il, rs, hl⟩ := L.obj n (ax, none) _ h1 ho
      have : vs[i]? = none := by
        have z := zAJ rs
        rw [List.getElem?_eq_none_iff] at hx
        exact Array.getElem?_eq_none_iff.mpr (by omega)
      exact wpAny_pyNext_list_end hh h2 (IsL.isList il) this fun h' he => ⟨rfl, rfl, he⟩
    · first | exact zAA hn | exact ff_tt hn | cases hn
  | keys _ _ => exact it.elim
end
end Mine
end

/-! # Src -/
section
set_option autoImplicit false
namespace Mine
open PySem PyProof.Rows
inductive QI (S : Stat) (X : List Addr) (f : List Loc) (s : Shared) (r : R Items) (it : Value) (s' : Shared) : Prop where
  | mk (its : Items) (σ' : Sto) (g : List Loc) (I : Addr) (e1 : r = .ok its σ') (e2 : it = .ref I) (hI : s.heap.get? I = none) (hX : I ∉ X) (hg : Fresh g s) (k : Kp f [] s s') (L : Lk S (I :: X) (f ++ g) σ' s'.heap) (x : ItAt S (I :: X) (f ++ g) s'.heap I its 0)
section
variable {S : Stat} {C : Ctx} {T : Nat → Option Fn} {F : Calls} {q : Bool} {d : Nat} {Γ : List Str} {sc : Scope}
variable {X X' Y Z : List Addr} {f g : List Loc} {σ : Sto} {s s' : Shared} {A : Around} {E : Value → Shared → Prop} {I a : Addr} {its : Items} {i : Nat}
theorem QI.lifts : Lifts [] (fun f s r a s' => QI S X f s r a s') := fun f g s s₁ r c s' hg k q => by
  obtain ⟨its, σ', g', I, e1, e2, e3, e4, hg', k', L, x⟩ := q
  rw [List.append_assoc] at L x
  exact ⟨its, σ', g ++ g', I, e1, e2, zAS k.live e3, e4, hg.trans k.live hg', k.trans hg k', L, x⟩
theorem QI.made {o : Obj} {t : Nat} (L : Lk S X f σ s.heap) (x : ItAt S (s.heap.objs.size :: X) f (s.heap.push o) s.heap.objs.size its 0) (hl : (s.heap.push o).get? s.heap.objs.size = some o) :
    QI S X f s (.ok its σ) (.ref s.heap.objs.size) { s with heap := s.heap.push o, toks := t } := by
  have ex : Ext s { s with heap := s.heap.push o, toks := t } := .heap fun _ _ e => Heap.get?_push_of_some _ e
  refine ⟨its, σ, [], s.heap.objs.size, rfl, rfl, zAd _, (L.new (zAd _)).2, .nil s, ex.kp f [], ?_, ?_⟩
  · rw [List.append_nil]; exact L.hideNew ex (zAd _) hl
  · rw [List.append_nil]; exact x
theorem QI.moved {r : R Items} {v : Value} {s₁ : Shared} (e : Ext s s₁) (h : QI S X f s₁ r v s') : QI S X f s r v s' :=
  QI.lifts f [] s s₁ r v s' (.nil s) (e.kp f []) (by rwa [List.append_nil])
theorem zHX {o : Obj} {xs : List V} {vs : List Value} (r : VRs S X f s.heap xs vs) : VRs S (s.heap.objs.size :: X) f (s.heap.push o) xs vs :=
  VRs.hideNew (s' := { s with heap := s.heap.push o }) (Ext.push s o) (zAd _) r
theorem iter_sound {v : V} {w : Value} (L : Lk S X f σ s.heap) (hi : itemsBy σ .val [v] = some its) (r : VR S X f s.heap v w) : wpAny (model S.prog S.w) A (pyIter w) (QI S X f s (.ok its σ)) E s := by
  cases v with
  | tup xs =>
    cases hi
    obtain ⟨p, vs, n, rfl, hp, il, rs, hlen⟩ := zBg r
    refine wpAny_pyIter_tuple ⟨_, il, rfl, n, rfl⟩ (QI.made (t := s.toks) L (.inr (.inl ⟨p, vs, n, ⟨_, Heap.get?_push_size _ rfl, rfl, rfl⟩, ⟨hp.1, ?_⟩, Heap.get?_push_of_some _ il, zHX rs⟩)) (Heap.get?_push_size _ rfl))
    exact fun h => (List.mem_cons.mp h).elim (fun h => by have := zAd s.heap; rw [← h, il] at this; cases this) hp.2
  | lst xs =>
    cases hi
    rw [VR] at r
    obtain ⟨p, vs, n, rfl, hp, il, rs, hlen⟩ := r
    refine wpAny_pyIter_list (IsL.isList il) (QI.made (t := s.toks) L (.inl ⟨p, vs, n, ⟨_, Heap.get?_push_size _ rfl, rfl, rfl⟩, ⟨hp.1, ?_⟩, Heap.get?_push_of_some _ il, zHX rs⟩) (Heap.get?_push_size _ rfl))
    exact fun h => (List.mem_cons.mp h).elim (fun h => by have := zAd s.heap; rw [← h, il] at this; cases this) hp.2
  | ref n =>
    have hi : refItems n σ[n]? = some its := hi
    unfold refItems at hi
    split at hi
    · rename_i xs ho
      cases hi
      rw [VR] at r
      obtain ⟨l, hl, rfl⟩ := r
      have := L.obj n l _ hl ho
      obtain ⟨p, dd⟩ := l
      cases dd with
      | none =>
        obtain ⟨vs, k, il, rs, hlen⟩ := this
        exact wpAny_pyIter_list (IsL.isList il) (QI.made (t := s.toks) L ⟨p, hl, ⟨_, Heap.get?_push_size _ rfl, rfl, rfl⟩⟩ (Heap.get?_push_size _ rfl))
      | some dd => exact this.elim
    · first | exact zAA hi | exact ff_tt hi | cases hi
  | str y =>
    obtain ⟨⟨t, rfl⟩, _⟩ := zAY r
    have hi : (if y.cps.all (· < 128) = true then some (Items.now (charsOf y)) else none) = some its := hi
    split at hi
    · rename_i ha
      cases hi
      exact wpAny_pyIter_ascii ha (QI.made (t := s.toks) L (.inr (.inr (.inr ⟨y, t, rfl, ha, ⟨_, Heap.get?_push_size _ rfl, rfl, rfl⟩⟩))) (Heap.get?_push_size _ rfl))
    · first | exact zAA hi | exact ff_tt hi | cases hi
  | _ => first | exact zAA hi | exact ff_tt hi | cases hi
noncomputable def SrcOk (S : Stat) (F : Calls) (q : Bool) (d : Nat) (Γ : List Str) (sc : Scope) (e : Expr) (k : SK) (cs : List CE) : Prop := (∀ env x, foldedSetIterable e env x = pure x) ∧
  ∀ (env : Env) (ρ : List V) (f : List Loc) (X : List Addr) (σ : Sto) (s : Shared) (A : Around), St S q d Γ sc env ρ f X σ s A →
    ((evL F q cs ρ σ).bind fun vs σ => R.lift σ (itemsBy σ k vs)) ≠ .stuck →
    wpAny (model S.prog S.w) A (eval e env) (fun x s₁ => wpAny (model S.prog S.w) A (pyIter x) (QI S X f s ((evL F q cs ρ σ).bind fun vs σ => R.lift σ (itemsBy σ k vs))) (ES S X [] f false s ((evL F q cs ρ σ).bind fun vs σ => R.lift σ (itemsBy σ k vs))) s₁)
      (ES S X [] f false s ((evL F q cs ρ σ).bind fun vs σ => R.lift σ (itemsBy σ k vs))) s
theorem src_val {e : Expr} {c : CE} (h : GOk S F q d Γ sc e c) : SrcOk S F q d Γ sc e .val [c] := by
  refine ⟨h.fold, fun env ρ f X σ s A st hne => ?_⟩
  have key : ((evL F q [c] ρ σ).bind fun vs σ => R.lift σ (itemsBy σ .val vs)) = (evE F q c ρ σ).bind fun v σ => R.lift σ (itemsBy σ .val [v]) := by
    rw [zHT, R.bind_assoc]
    congr 1
  rw [key] at hne ⊢
  refine Sim.go (K := fun f s r a s' => QI S X f s r a s') QI.lifts (h.eo env ρ f X σ s A st) hne (fun _ _ x => x) (fun _ _ x => x) fun va a' σ₁ g₁ s₁ hne hg k L ra hQ hE => ?_
  obtain ⟨its, hi⟩ := zAb hne
  rw [hi] at hQ
  exact wpAny_mono (iter_sound L hi ra) hQ fun _ _ x => x
theorem range_iter {lo hi : Int} {t u v : Tok} (L : Lk S X f σ s.heap) (h0 : 0 ≤ lo) (h1 : lo ≤ LIM) (h2 : hi.natAbs ≤ LIM) :
    wpAny (model S.prog S.w) A (pyIter (.ref s.heap.objs.size)) (QI S X f s (.ok (.now (rangeL lo hi)) σ)) E { s with heap := s.heap.push { cls := .type "range", data := .fields #[.int lo t, .int hi u, .int 1 v] }, toks := s.toks } := by
  have hL : LIM = 1048576 := rfl
  have ex : Ext s { s with heap := s.heap.push { cls := .type "range", data := .fields #[.int lo t, .int hi u, .int 1 v] }, toks := s.toks } := .heap fun _ _ e => Heap.get?_push_of_some _ e
  refine wpAny_pyIter_range (IsRange.new ..) (small_one (by omega) (by omega) (by omega) (by omega)) (QI.moved ex (QI.made (t := s.toks) (ex.lk L) (.inr (.inr (.inl ⟨lo, hi, rfl, ?_⟩))) (Heap.get?_push_size _ rfl)))
  have e1 : Builtin.Range.rangeSize lo hi 1 = ((hi - lo).toNat : Int) - ((0 : Nat) : Int) := by rw [rangeSize_one]; split <;> omega
  have e2 : lo + ((0 : Nat) : Int) = lo := by simp
  show IsRangeIter _ _ (lo + ((0 : Nat) : Int)) _ 1
  rw [← e1, e2]
  exact Heap.get?_push_size _ rfl
theorem src_range (fs : Facts S C T) {p pos : Pos} {es : List Expr} {cs : List CE} {k : SK} (hg : isGlob sc "range" = true) (hn : C.fns.lookup ("range" : Str) = none) (h : All2 (GOk S F q d Γ sc) es cs)
    (hk : (k = .range1 ∧ cs.length = 1) ∨ False) : SrcOk S F q d Γ sc (.Call (.Name ("range" : Str) p) es [] pos) k cs := by
  refine ⟨fun _ _ => rfl, fun env ρ f X σ s A st hne => ?_⟩
  have hl := LOk.of h
  refine wpAny_Call_NameR (zAf fs st hg hn (.inr (.inr (.inr (.inr rfl)))) bb_range (by decide) ?_)
  refine zAP (zAK _ hl.1) ?_
  refine Sim.go (K := fun f s r a s' => QI S X f s r a s') QI.lifts (hl.2 env pos ρ f X σ s A st) hne (fun _ _ x => x) (fun _ _ x => x) fun vs xs σ₁ g₁ s₁ hne hg k L rs hQ hE => ?_
  refine ⟨zAR (by simp), ?_⟩
  obtain ⟨its, hi⟩ := zAb hne
  rw [hi] at hQ
  have hL : LIM = 1048576 := rfl
  rcases hk with ⟨rfl, _⟩ | hk
  · obtain ⟨n, rfl⟩ : ∃ n, xs = [.int n] := by
      rcases xs with _ | ⟨x, _ | ⟨y, _ | ⟨z, r⟩⟩⟩
      · first | exact zAA hi | exact ff_tt hi | cases hi
      · cases x <;> first | exact ⟨_, rfl⟩ | cases hi
      · first | exact zAA hi | exact ff_tt hi | cases hi
      · first | exact zAA hi | exact ff_tt hi | cases hi
    match vs, rs with
    | [w], rs =>
      rw [VRs] at rs
      obtain ⟨t, rfl⟩ := zAU rs.1
      have hi : (if n.natAbs ≤ LIM then some (Items.now (rangeL 0 n)) else none) = some its := hi
      split at hi
      · rename_i hb
        cases hi
        refine call_range_1 ?_
        have ex : Ext s₁ { s₁ with toks := s₁.toks + 1 + 1 } := .toks s₁ _
        exact wpAny_mono (range_iter (s := { s₁ with toks := s₁.toks + 1 + 1 }) L (by omega) (by omega) hb) (fun v s'' x => hQ v s'' (QI.moved ex x)) fun _ _ x => x
      · first | exact zAA hi | exact ff_tt hi | cases hi
    | [], rs => rw [VRs] at rs; exact rs.elim
    | _ :: _ :: _, rs => rw [VRs, VRs] at rs; exact rs.2.elim
  · exact hk.elim
end
end Mine
end

/-! # CompS -/
section
set_option autoImplicit false
namespace Mine
open PySem PyProof.Rows
section
variable {S : Stat} {C : Ctx} {T : Nat → Option Fn} {F : Calls} {q : Bool} {d : Nat} {Γ : List Str} {sc : Scope}
variable {X X' Y Z : List Addr} {f g : List Loc} {σ : Sto} {s s' : Shared} {A : Around} {E : Value → Shared → Prop} {I a : Addr} {its : Items} {i : Nat} {env : Env} {ρ : List V}
theorem append_raw {l : Addr} {items : Array Value} {n : Nat} {x : Value} {Q : Value → Shared → Prop} (hl : IsL s.heap l items n) (h : Q .none { s with heap := s.heap.update l (Obj.mapSeq (·.push x)) }) (hsz : items.size ≤ sizeLine) :
    wpAny (model S.prog S.w) A (call (.builtin "list.append") [.ref l, x]) Q E s := by
  refine wpAny_call_entry slot_list_append (IsL.isList hl).typeIs entry_list_append ?_ (args_list_append _ _)
  show wpAny _ _ (updateSeq l (·.push x) >>= fun _ => ret .none) _ _ s
  refine wpAny_bind ?_
  have hz' : (items.push x).size ≤ sizeLine + 1 := by rw [Array.size_push]; omega
  exact wpAny_updateSeq hl rfl (wpAny_pure ⟨.none, rfl, h⟩) (hz := hsz) (_hz' := hz')
theorem IsL.appended {h : Heap} {l : Addr} {items : Array Value} {n : Nat} {x : Value} (hl : IsL h l items n) : ∃ n', IsL (h.update l (Obj.mapSeq (·.push x))) l (items.push x) n' := ⟨_, IsL.update hl _⟩
theorem zDA : ∀ (names : List (Str × NameKind)) (cs : List (Str × Addr)), (∀ n, (n, NameKind.free) ∈ names → ∃ c, env.cells.lookup n = some c) → (∀ y c, cs.lookup y = some c → env.cells.lookup y = some c) →
    ∃ cl, (forIn names cs (fun x r => do
        let __x ← pure PUnit.unit
        match x with
        | (name, kind) => if (kind == .free) = true then do let y ← cellOf env name; pure (ForInStep.yield ((name, y) :: r)) else pure (ForInStep.yield r)) : Sem (List (Str × Addr))) = pure cl ∧ (∀ y c, cl.lookup y = some c → env.cells.lookup y = some c) ∧
      (∀ y, (cs.lookup y).isSome = true → (cl.lookup y).isSome = true) ∧ ∀ y, (y, NameKind.free) ∈ names → (cl.lookup y).isSome = true
  | [], cs, _, h2 => ⟨cs, rfl, h2, fun _ h => h, fun _ h => nomatch h⟩
  | (n, k) :: r, cs, h1, h2 => by
    have h1' : ∀ n, (n, NameKind.free) ∈ r → ∃ c, env.cells.lookup n = some c := fun n hn => h1 n (List.mem_cons_of_mem _ hn)
    by_cases hk : k = .free
    · subst hk
      obtain ⟨c, hc⟩ := h1 n List.mem_cons_self
      obtain ⟨cl, e1, e2, e3, e4⟩ := zDA r ((n, c) :: cs) h1' (fun y c' e => by
        rw [List.lookup_cons] at e
        split at e
        · rename_i hy; rw [eq_of_beq hy]; cases e; exact hc
        · exact h2 y c' e)
      refine ⟨cl, ?_, e2, fun y hy => e3 y ?_, fun y hy => ?_⟩
      · rw [List.forIn_cons]
        simp only [cellOf, hc]
        exact e1
      · rw [List.lookup_cons]; split
        · rfl
        · exact hy
      · rcases List.mem_cons.mp hy with e | hy
        · cases e; exact e3 n (by simp)
        · exact e4 y hy
    · obtain ⟨cl, e1, e2, e3, e4⟩ := zDA r cs h1' h2
      refine ⟨cl, ?_, e2, e3, fun y hy => ?_⟩
      · rw [List.forIn_cons]
        have : (k == NameKind.free) = false := by simpa using hk
        simp only [this]
        exact e1
      · rcases List.mem_cons.mp hy with e | hy
        · cases e; exact absurd rfl hk
        · exact e4 y hy
theorem closure_of {scope : Scope} (h : ∀ n, (n, NameKind.free) ∈ scope.names → ∃ c, env.cells.lookup n = some c) : ∃ cl, closureFor scope env = pure cl ∧ ∀ y, (y, NameKind.free) ∈ scope.names → ∃ c, cl.lookup y = some c ∧ env.cells.lookup y = some c := by
  obtain ⟨cl, e1, e2, _, e4⟩ := zDA (env := env) scope.names [] h (fun y c e => by simp at e)
  refine ⟨cl, ?_, fun y hy => ?_⟩
  · simp only [closureFor]
    have := e1
    simp only [pure_bind, bind_pure] at this ⊢
    exact this
  · obtain ⟨c, hc⟩ := Option.isSome_iff_exists.mp (e4 y hy)
    exact ⟨c, hc, e2 y c hc⟩
end
end Mine
end

/-! # CompS2 -/
section
set_option autoImplicit false
namespace Mine
open PySem PyProof.Rows
theorem zBh {env : Env} {scope : Scope} (x : Str) : (relabel scope env).names.lookup x = scope.names.lookup x ∨ (scope.names.lookup x = some .free ∧ (relabel scope env).names.lookup x = some .cell) := by
  show (scope.names.map fun (n, k) => if (k == NameKind.free && env.scope.kind == .function && env.kindOf n == some .cell) then (n, NameKind.cell) else (n, k)).lookup x = _ ∨ (_ ∧ (scope.names.map fun (n, k) => if (k == NameKind.free && env.scope.kind == .function && env.kindOf n == some .cell) then (n, NameKind.cell) else (n, k)).lookup x = some .cell)
  generalize scope.names = names
  induction names with
  | nil => exact .inl rfl
  | cons p r ih =>
    obtain ⟨n, k⟩ := p
    simp only [List.map_cons]
    by_cases hc : (k == NameKind.free && env.scope.kind == .function && env.kindOf n == some .cell) = true
    · rw [if_pos hc]
      rw [List.lookup_cons, List.lookup_cons]
      have hk : k = .free := by simp only [Bool.and_eq_true] at hc; exact eq_of_beq hc.1.1
      split
      · exact .inr ⟨by rw [hk], rfl⟩
      · exact ih
    · rw [if_neg hc]
      rw [List.lookup_cons, List.lookup_cons]
      split
      · exact .inl rfl
      · exact ih
section
variable {S : Stat} {C : Ctx} {T : Nat → Option Fn} {F : Calls} {q : Bool} {d : Nat} {Γ : List Str} {sc : Scope}
variable {X X' Y Z : List Addr} {f g : List Loc} {σ : Sto} {s s' : Shared} {A : Around} {E : Value → Shared → Prop} {I a : Addr} {its : Items} {i : Nat} {env : Env} {ρ : List V}
theorem zBj (x y : Str) : ∀ (Γ : List Str), lastIdx y (Γ ++ [x]) = if x == y then some Γ.length else lastIdx y Γ
  | [] => by simp [lastIdx]
  | z :: Γ => by
    simp only [List.cons_append, lastIdx, zBj x y Γ]
    by_cases h : (x == y) = true
    · simp [h]
    · simp [h]
theorem zBe {y : Str} : ∀ {Γ : List Str} {i : Nat}, lastIdx y Γ = some i → i < Γ.length
  | [], i, h => by simp [lastIdx] at h
  | z :: Γ, i, h => by
    simp only [lastIdx] at h
    split at h
    · rename_i j hj; cases h; have := zBe hj; simp; omega
    · split at h
      · cases h; simp
      · first | exact zAA h | exact ff_tt h | cases h
theorem zBn {y : Str} : ∀ {Γ : List Str} {i : Nat}, lastIdx y Γ = some i → y ∈ Γ
  | [], i, h => by simp [lastIdx] at h
  | z :: Γ, i, h => by
    simp only [lastIdx] at h
    split at h
    · rename_i j hj; exact List.mem_cons_of_mem _ (zBn hj)
    · split at h
      · rename_i e; rw [eq_of_beq e]; exact List.mem_cons_self
      · first | exact zAA h | exact ff_tt h | cases h
structure CompOk (Γ : List Str) (sc scope : Scope) (x : Str) : Prop where
  kind : scope.kind = .function
  self : scope.names.lookup x = some .local
  cell : ∀ p ∈ scope.names, p.2 ≠ .cell
  loc : ∀ p ∈ scope.names, p.2 = .local → (p.1 = x ∨ p.1 ∉ Γ) ∧ scope.names.lookup p.1 = some .local
  free : ∀ p ∈ scope.names, p.2 = .free → sc.names.lookup p.1 = some .cell ∨ sc.names.lookup p.1 = some .free
theorem compOk_of {scope : Scope} {x : Str} (h : compOk Γ sc scope x = true) : CompOk Γ sc scope x := by
  unfold compOk at h
  simp only [Bool.and_eq_true, List.all_eq_true, Bool.not_eq_true'] at h
  obtain ⟨⟨⟨⟨h1, h2⟩, h3⟩, h4⟩, h5⟩ := h
  refine ⟨eq_of_beq h1, eq_of_beq h2, fun p hp e => ?_, fun p hp e => ?_, fun p hp e => ?_⟩
  · have := h5 p hp
    rw [e] at this; cases this
  · have := h5 p hp
    rw [e] at this
    simp only [Bool.and_eq_true, Bool.or_eq_true] at this
    refine ⟨this.1.elim (fun q => .inl (eq_of_beq q)) fun q => .inr ?_, eq_of_beq this.2⟩
    rw [eq_of_beq q]
    intro hm
    rw [List.contains_iff_mem.mpr hm] at h3
    cases h3
  · have := h5 p hp
    rw [e] at this
    simp only [Bool.or_eq_true] at this
    exact this.elim (fun q => .inl (eq_of_beq q)) fun q => .inr (eq_of_beq q)
theorem FR.cellKind {h : Heap} (fr : FR S X f h env Γ sc ρ) {y : Str} (hy : sc.names.lookup y = some .cell ∨ sc.names.lookup y = some .free) : isCellKind (env.kindOf y) := by
  rcases fr.names y with e | ⟨_, e⟩
  · rw [e]; exact hy
  · exact .inl e
theorem FR.comp {h : Heap} {scope : Scope} {x : Str} {cl : List (Str × Addr)} {D : Addr} {m : Str → Option Value} {v : V} {w : Value} (fr : FR S X f h env Γ sc ρ) (ok : CompOk Γ sc scope x)
    (hcl : ∀ y, (y, NameKind.free) ∈ scope.names → ∃ c, cl.lookup y = some c ∧ env.cells.lookup y = some c) (hD : D ∈ X) (hn : h.Ns D m) (hm : m x = some w) (r : VR S X f h v w) :
    FR S X f h (compEnvC scope cl D env) (Γ ++ [x]) scope (ρ ++ [v]) := by
  have names : ∀ y, (compEnvC scope cl D env).kindOf y = scope.names.lookup y ∨ (scope.names.lookup y = some .free ∧ (compEnvC scope cl D env).kindOf y = some .cell) := fun y => zBh y
  have freeOf : ∀ y, isCellKind ((compEnvC scope cl D env).kindOf y) → (y, NameKind.free) ∈ scope.names := fun y hy => by
    rcases names y with e | ⟨e, _⟩
    · rw [e] at hy
      rcases hy with e' | e'
      · exact absurd rfl (ok.cell _ (zAG e'))
      · exact zAG e'
    · exact zAG e
  refine ⟨ok.kind, fr.glob, fr.blt, names, ⟨hD, m, hn⟩, fun y hy => ?_, fun y i v' hv hi hv' hne => ?_, by simp [fr.len]⟩
  · obtain ⟨c, e1, e2⟩ := hcl y (freeOf y hy)
    obtain ⟨c', o, e3, e4, e5⟩ := fr.cells y (fr.cellKind (ok.free _ (freeOf y hy) rfl))
    rw [e2] at e3; cases e3
    exact ⟨c, o, e1, e4, e5⟩
  · rw [zBj] at hi
    by_cases hxy : (x == y) = true
    · rw [if_pos hxy] at hi
      cases hi
      have e := eq_of_beq hxy
      subst e
      rw [← fr.len, List.getElem?_append_right (Nat.le_refl _)] at hv'
      simp at hv'
      subst hv'
      refine ⟨w, .inl ⟨?_, m, hn, hm⟩, r⟩
      rcases names x with e | ⟨e, _⟩
      · exact e.trans ok.self
      · rw [ok.self] at e; cases e
    · rw [if_neg hxy] at hi
      have hlt := zBe hi
      rw [List.getElem?_append_left (by rw [fr.len]; exact hlt)] at hv'
      have hfree : (y, NameKind.free) ∈ scope.names := by
        unfold isVar at hv
        split at hv
        · rename_i e
          rcases (ok.loc _ (zAG e) rfl).1 with e' | e'
          · exact absurd (by rw [show x = y from e'.symm]; simp) hxy
          · exact absurd (zBn hi) e'
        · rename_i e; exact absurd rfl (ok.cell _ (zAG e))
        · rename_i e; exact zAG e
        · first | exact zAA hv | exact ff_tt hv | cases hv
      have hsc := ok.free _ hfree rfl
      have hv2 : isVar sc y = true := by
        unfold isVar
        rcases hsc with e | e <;> simp only at e <;> rw [e]
      obtain ⟨w', n, r'⟩ := fr.vals y i v' hv2 hi hv' hne
      obtain ⟨c, e1, e2⟩ := hcl y hfree
      refine ⟨w', .inr ⟨?_, c, e1, ?_⟩, r'⟩
      · rcases names y with e | ⟨_, e⟩
        · rw [e]
          unfold isVar at hv
          split at hv
          · rename_i e'
            rcases (ok.loc _ (zAG e') rfl).1 with e'' | e''
            · exact absurd (by rw [show x = y from e''.symm]; simp) hxy
            · exact absurd (zBn hi) e''
          · rename_i e'; exact .inl e'
          · rename_i e'; exact .inr e'
          · first | exact zAA hv | exact ff_tt hv | cases hv
        · exact .inl e
      · rcases n with ⟨k1, _⟩ | ⟨_, c', e3, e4⟩
        · have := fr.cellKind hsc
          rw [k1] at this
          rcases this with h | h <;> cases h
        · rw [e2] at e3; cases e3; exact e4
theorem FR.keepY (fr : FR S X f s.heap env Γ sc ρ) (hXf : ∀ a ∈ X, a ∉ addrs f) (k : Kp f Y s s') (hg : Fresh g s) (hYX : ∀ a ∈ Y, a ∈ X) (hl : env.locals ∉ Y) (hc : ∀ x c, isCellKind (env.kindOf x) → env.cells.lookup x = some c → c ∉ Y) : FR S X (f ++ g) s'.heap env Γ sc ρ := by
  have hcf : ∀ x c, env.cells.lookup x = some c → isCellKind (env.kindOf x) → c ∉ addrs f := fun x c e hk => by
    obtain ⟨c', o, e', hX, _⟩ := fr.cells x hk
    rw [e] at e'; cases e'
    exact hXf c hX
  refine ⟨fr.kind, fr.glob, fr.blt, fr.names, ⟨fr.loc.1, let ⟨m, h⟩ := fr.loc.2; ⟨m, kp_ns k (hXf _ fr.loc.1) hl h⟩⟩, fun x hx => ?_, fun x i v h1 h2 h3 h4 => ?_, fr.len⟩
  · obtain ⟨c, o, e, hX, h⟩ := fr.cells x hx
    exact ⟨c, o, e, hX, zGw k (hcf x c e hx) (hc x c hx e) h⟩
  · obtain ⟨w, h5, h6⟩ := fr.vals x i v h1 h2 h3 h4
    exact ⟨w, h5.keep k ⟨hXf _ fr.loc.1, hl⟩ fun x c e hk => ⟨hcf x c e hk, hc x c hk e⟩, h6.keepK k hg hYX⟩
theorem FR.hideNew (fr : FR S X f s.heap env Γ sc ρ) (e : Ext s s') (hn : s.heap.get? a = none) : FR S (a :: X) f s'.heap env Γ sc ρ := by
  have ns : ∀ {b : Addr} {m : Str → Option Value}, s.heap.Ns b m → s'.heap.Ns b m := fun h => by
    obtain ⟨o, es, ep, ho, r⟩ := h
    exact ⟨o, es, ep, e.keep _ _ ho, r⟩
  have cl : ∀ {b : Addr} {m : Option Value}, s.heap.IsCell b m → s'.heap.IsCell b m := fun h => by
    obtain ⟨o, ho, r⟩ := h
    exact ⟨o, e.keep _ _ ho, r⟩
  refine ⟨fr.kind, fr.glob, fr.blt, fr.names, ⟨List.mem_cons_of_mem _ fr.loc.1, let ⟨m, h⟩ := fr.loc.2; ⟨m, ns h⟩⟩, fun x hx => ?_, fun x i v h1 h2 h3 h4 => ?_, fr.len⟩
  · obtain ⟨c, o, e1, hX, h⟩ := fr.cells x hx
    exact ⟨c, o, e1, List.mem_cons_of_mem _ hX, cl h⟩
  · obtain ⟨w, h5, h6⟩ := fr.vals x i v h1 h2 h3 h4
    refine ⟨w, ?_, VR.keep (fun _ _ e => e) (fun b ob q h1 h2 => ⟨⟨h1, fun h => (List.mem_cons.mp h).elim (fun h => by subst h; rw [hn] at q; cases q) h2⟩, ob, e.keep b ob q, .refl ob⟩) v w h6⟩
    rcases h5 with ⟨k, m, h7, h8⟩ | ⟨k, c, h7, h8⟩
    · exact .inl ⟨k, m, ns h7, h8⟩
    · exact .inr ⟨k, c, h7, cl h8⟩
theorem Cx.ext {fr : Option Addr} (c : Cx S A q d f s.heap fr) (e : Ext s s') : Cx S A q d f s'.heap fr := by
  have := c.keep (g := []) (Y := []) (e.kp f []) (.nil s)
  rwa [List.append_nil] at this
theorem St.hide {o : Obj} (st : St S q d Γ sc env ρ f X σ s A) (e : Ext s s') (hn : s.heap.get? a = none) (hl : s'.heap.get? a = some o) : St S q d Γ sc env ρ f (a :: X) σ s' A :=
  ⟨st.cx.ext e, st.fr.hideNew e hn, st.lk.hideNew e hn hl⟩
inductive QC {α β : Type} (S : Stat) (X Y : List Addr) (f : List Loc) (P : α → β → List Loc → Shared → Prop) (s : Shared) (b : β) (σ' : Sto) (a : α) (s' : Shared) : Prop
  | mk (g : List Loc) (hg : Fresh g s) (k : Kp f Y s s') (L : Lk S X (f ++ g) σ' s'.heap) (p : P a b (f ++ g) s')
inductive Calm {α β γ : Type} (S : Stat) (A : Around) (X Y : List Addr) (f : List Loc) (P : α → β → List Loc → Shared → Prop) (t : Sem α) (r : R β) (rk : β → Sto → R γ) (s : Shared) : Prop
  | mk (b : β) (σ' : Sto) (e : r = .ok b σ') (ek : r.calm.bind rk = rk b σ') (hne : rk b σ' ≠ .stuck) (w : ∀ E, wpAny (model S.prog S.w) A t (QC S X Y f P s b σ') E s)
theorem Sim.calm {α β γ : Type} {P : α → β → List Loc → Shared → Prop} {t : Sem α} {r : R β} {rk : β → Sto → R γ} (h : Sim S A X Y f P t r s) (hne : r.calm.bind rk ≠ .stuck) :
    Calm S A X Y f P t r rk s := by
  cases r with
  | ok b σ' =>
    refine ⟨b, σ', rfl, rfl, hne, fun E => wpAny_mono (h (by simp)) (fun a s' q => ?_) fun e s' q => ?_⟩
    · obtain ⟨b', σ'', g, e, hg, k, L, p⟩ := q
      cases e
      exact ⟨g, hg, k, L, p⟩
    · obtain ⟨_, _, _, _, _, e, _⟩ := q; cases e
  | exc _ _ => exact absurd rfl hne
  | stuck => exact absurd rfl hne
end
end Mine
end

/-! # CompS3 -/
section
set_option autoImplicit false
namespace Mine
open PySem PyProof.Rows
section
variable {S : Stat} {C : Ctx} {T : Nat → Option Fn} {F : Calls} {q : Bool} {d : Nat} {Γ : List Str} {sc : Scope}
variable {X X' Y Z : List Addr} {f g : List Loc} {σ : Sto} {s s' : Shared} {A : Around} {E : Value → Shared → Prop} {I a : Addr} {its : Items} {i : Nat} {env : Env} {ρ : List V}
theorem FR.later (fr : FR S X f s.heap env Γ sc ρ) (L : Lk S X f σ s.heap) (k : Kp f [] s s') (hg : Fresh g s) (hX' : ∀ a ∈ X', a ∈ X ∨ s.heap.get? a = none) (hXX : ∀ a ∈ X, a ∈ X') : FR S X' (f ++ g) s'.heap env Γ sc ρ := by
  have fr' : FR S X' f s.heap env Γ sc ρ := ⟨fr.kind, fr.glob, fr.blt, fr.names, ⟨hXX _ fr.loc.1, fr.loc.2⟩, fun x hx => (by obtain ⟨c, o, e, hX, h⟩ := fr.cells x hx; exact ⟨c, o, e, hXX c hX, h⟩),
    fun x i v h1 h2 h3 h4 => (by obtain ⟨w, h5, h6⟩ := fr.vals x i v h1 h2 h3 h4; exact ⟨w, h5, h6.more hX'⟩), fr.len⟩
  exact fr'.keepY (fun a ha => (hX' a ha).elim (fun h => (L.hid a h).2.1) fun h => (L.new h).1) k hg (fun a h => nomatch h) (fun h => nomatch h) fun _ _ _ _ h => nomatch h
theorem iter_self {Q : Value → Shared → Prop} (x : ItAt S X f s.heap I its i) (h : Q (.ref I) s) : wpAny (model S.prog S.w) A (pyIter (.ref I)) Q E s := by
  cases its with
  | now xs =>
    rcases x with ⟨ax, items, n, h1, h2, h3, h4⟩ | ⟨ax, items, n, h1, h2, h3, h4⟩ | ⟨lo, hi, rfl, h2⟩ | ⟨y, t, rfl, h2, h3⟩
    · exact wpAny_pyIter_listiter h1 h
    · exact wpAny_pyIter_tupleiter h1 h
    · exact wpAny_pyIter_rangeiter h2 h
    · exact wpAny_pyIter_striter_ascii h3 h
  | live n => obtain ⟨ax, h1, h2⟩ := x; exact wpAny_pyIter_listiter h2 h
  | keys _ _ => exact x.elim
theorem Kp.mv {s₁ : Shared} (k : Kp f Y s s₁) (m : Mv a s₁ s') (hn : s.heap.get? a = none) : Kp f Y s s' :=
  k.ends (Z := [a]) m.rest (fun b o hb e => m.keep b o (fun q => hb (q ▸ List.mem_singleton.mpr rfl)) e) fun b hb => List.mem_singleton.mp hb ▸ hn
noncomputable def compStep (F : Calls) (q : Bool) (elt : CE) (cond : Option CE) (ρ : List V) (x : V) (acc : List V) (σ : Sto) : R (List V) :=
  (evC F q cond (ρ ++ [x]) σ).calm.bind fun t σ => if t then (evE F q elt (ρ ++ [x]) σ).calmE.bind fun y σ => (if acc.length < LIM then .ok (acc ++ [y]) σ else .stuck) else .ok acc σ
structure Turn (S : Stat) (s : Shared) (X : List Addr) (f : List Loc) (N D I : Addr) (its : Items) (i : Nat) (acc : List V) (σ' : Sto) (g : List Loc) (m : Str → Option Value) (ys : Array Value) (n : Nat) (s' : Shared) : Prop where
  fresh : Fresh g s
  kp : Kp f [] s s'
  lk : Lk S (N :: D :: I :: X) (f ++ g) σ' s'.heap
  it : ItAt S (N :: D :: I :: X) (f ++ g) s'.heap I its i
  ns : s'.heap.Ns N m
  il : IsL s'.heap D ys n
  vs : VRs S (N :: D :: I :: X) (f ++ g) s'.heap acc ys.toList
  len : acc.length ≤ LIM
theorem all3 {N D I : Addr} {X : List Addr} {P : Addr → Prop} (hN : P N) (hD : P D) (hI : P I) (h : ∀ a ∈ X, P a) : ∀ a ∈ N :: D :: I :: X, P a
  | _, .head _ => hN
  | _, .tail _ (.head _) => hD
  | _, .tail _ (.tail _ (.head _)) => hI
  | a, .tail _ (.tail _ (.tail _ m)) => h a m
theorem all2 {N D : Addr} {X : List Addr} {P : Addr → Prop} (hN : P N) (hD : P D) (h : ∀ a ∈ X, P a) : ∀ a ∈ N :: D :: X, P a
  | _, .head _ => hN
  | _, .tail _ (.head _) => hD
  | a, .tail _ (.tail _ m) => h a m
inductive CLoop (S : Stat) (s : Shared) (X : List Addr) (f : List Loc) (N D I : Addr) (its : Items) (g : V → List V → Sto → R (List V)) (total : R (List V)) (k : Nat) (s' : Shared) : Prop
  | mk (i : Nat) (acc : List V) (σ' : Sto) (l : List Loc) (m : Str → Option Value) (ys : Array Value) (n : Nat) (hf : foldIt its g k i acc σ' = total) (t : Turn S s X f N D I its i acc σ' l m ys n s') : CLoop S s X f N D I its g total k s'
theorem comp_loop {scope : Scope} {x : Str} {px pos : Pos} {elt iter : Expr} {ifs : List Expr} {ce : CE} {cond : Option CE} {cl : List (Str × Addr)} {N D : Addr} {R' : Result → Shared → Prop} {s₄ : Shared}
    (st : St S q d Γ sc env ρ f X σ s A) (hh : A.handled = none) (ok : CompOk Γ sc scope x) (hcl : ∀ y, (y, NameKind.free) ∈ scope.names → ∃ c, cl.lookup y = some c ∧ env.cells.lookup y = some c)
    (hcond : (ifs = [] ∧ cond = none) ∨ ∃ e c, ifs = [e] ∧ cond = some c ∧ TOk S F q d (Γ ++ [x]) scope e c) (helt : EOk S F q d (Γ ++ [x]) scope elt ce)
    (hN : s.heap.get? N = none) (hD : s.heap.get? D = none) (hI : s.heap.get? I = none) (hND : N ≠ D) (hNI : N ≠ I) (hDI : D ≠ I)
    {total : R (List V)} (hne : total ≠ .stuck) {fuel : Nat} {acc₀ : List V} {σ₀ : Sto} (h0 : foldIt its (compStep F q ce cond ρ) fuel 0 acc₀ σ₀ = total) {g₀ : List Loc} {m₀ : Str → Option Value} {ys₀ : Array Value} {n₀ : Nat} (t0 : Turn S s X f N D I its 0 acc₀ σ₀ g₀ m₀ ys₀ n₀ s₄)
    (hR : ∀ acc σ' g m ys n s', total = .ok acc σ' → Fresh g s → Kp f [] s s' → Lk S (N :: D :: X) (f ++ g) σ' s'.heap → s'.heap.Ns N m → IsL s'.heap D ys n → VRs S (N :: D :: X) (f ++ g) s'.heap acc ys.toList → acc.length ≤ LIM → R' (.ok .next) s')
    : codeAny (model S.prog S.w) A (.compLoop (.ListComp elt [⟨.Name x px, iter, ifs, 0⟩] scope pos) 0 (.ref I) (.ref D) (compEnvC scope cl N env)) R' s₄ := by
  refine codeAny_compLoop_tests (CLoop S s X f N D I its (compStep F q ce cond ρ) total) ?_ fuel (.mk 0 acc₀ σ₀ g₀ m₀ ys₀ n₀ h0 t0)
  rintro k s' ⟨i, acc, σ', g, m, ys, n, hf, t⟩
  cases k with
  | zero => rw [zHD] at hf; exact absurd hf.symm hne
  | succ k =>
  rw [zHE] at hf
  have hIX : I ∈ N :: D :: I :: X := .tail _ (.tail _ (.head _))
  have hNX : N ∈ N :: D :: I :: X := .head _
  have hDX : D ∈ N :: D :: I :: X := .tail _ (.head _)
  cases hnx : nextIt σ' its i with
  | none => rw [hnx] at hf; exact absurd hf.symm hne
  | some o =>
  rw [hnx] at hf
  cases o with
  | none =>
    refine wpAny_mono (zHi hh t.lk t.it hnx) (fun r s₁ h₁ => ?_) fun _ _ x => x
    obtain ⟨rfl, hr, hk⟩ := h₁
    have hk' : ∀ b o, b ∉ [I] → s'.heap.get? b = some o → s₁.heap.get? b = some o := fun b o hb e => hk b o (fun q => hb (q ▸ List.mem_singleton.mpr rfl)) e
    obtain ⟨on, es, ep, e1, e2⟩ := t.ns
    have hXd : ∀ a ∈ N :: D :: X, a ∈ N :: D :: I :: X := all2 hNX hDX fun a ha => .tail _ (.tail _ (.tail _ ha))
    have hIn : ∀ a ∈ N :: D :: X, a ∉ [I] := all2 (fun h => hNI (List.mem_singleton.mp h)) (fun h => hDI (List.mem_singleton.mp h)) fun a ha h => (List.mem_singleton.mp h ▸ st.lk.hid a ha).2.2.elim fun o e => nomatch hI.symm.trans e
    have hf : R.ok acc σ' = total := hf
    refine hR acc σ' g m ys n s₁ hf.symm t.fresh (t.kp.ends (Z := [I]) hr hk' fun b hb => List.mem_singleton.mp hb ▸ hI) (t.lk.drop (Z := [I]) (fun a ha => ⟨hXd a ha, hIn a ha⟩) (fun a ha => List.mem_singleton.mp ha ▸ hIX) hk') ⟨on, es, ep, hk N on hNI e1, e2⟩ (hk D _ hDI t.il) (VRs.drop (Z := [I]) hXd (fun a ha => List.mem_singleton.mp ha ▸ hIX) hk' t.vs) t.len
  | some x' =>
  have hf : (compStep F q ce cond ρ x' acc σ').bind (fun b σ => foldIt its (compStep F q ce cond ρ) k (i + 1) b σ) = total := hf
  refine wpAny_mono (zGO hIX t.lk t.it hnx) (fun r s₁ h₁ => ?_) fun _ _ x => x
  obtain ⟨v, rfl, m1, it1, rv⟩ := h₁
  obtain ⟨on, es, ep, e1, e2⟩ := t.ns
  have ns1 : s₁.heap.Ns N m := ⟨on, es, ep, m1.keep N on hNI e1, e2⟩
  have hxk : (compEnvC scope cl N env).kindOf x = some .local := by
    rcases zBh (env := env) (scope := scope) x with e | ⟨e, _⟩
    · exact e.trans ok.self
    · rw [ok.self] at e; cases e
  refine wpAny_assign_Name (wpAny_storeName_local hxk ns1 (fun h₂ hn₂ hs₂ => ?_) (by simp [compEnvC, relabel, ok.kind]))
  have m2 : Mv N s₁ { s₁ with heap := h₂, toks := s₁.toks + 1 } := by
    obtain ⟨o2, es2, ep2, e3, e4, _⟩ := id hn₂
    exact ⟨rfl, fun b o hb e => (hs₂.2 b hb).trans e, ⟨o2, e3⟩, fun _ _ _ _ _ => ⟨o2, es2, ep2, e3, e4⟩⟩
  generalize hs₂' : ({ s₁ with heap := h₂, toks := s₁.toks + 1 } : Shared) = s₂ at m2 ⊢
  have hh₂ : s₂.heap = h₂ := by rw [← hs₂']
  rw [← hh₂] at hn₂
  have lk2 := m2.lk hNX (m1.lk hIX t.lk)
  have it2 := it1.mv m2 hNX (Ne.symm hNI)
  have kp2 : Kp f [] s s₂ := (t.kp.mv m1 hI).mv m2 hN
  have hX' : ∀ a ∈ N :: D :: I :: X, a ∈ X ∨ s.heap.get? a = none := all3 (.inr hN) (.inr hD) (.inr hI) fun a ha => .inl ha
  have fr2 := (st.fr.later st.lk kp2 t.fresh hX' fun a ha => .tail _ (.tail _ (.tail _ ha))).comp ok hcl hNX hn₂ (by simp) (m2.vr hNX rv)
  have cx2 : Cx S A q d (f ++ g) s₂.heap env.frame := st.cx.keep kp2 t.fresh
  have st2 : St S q d (Γ ++ [x]) scope (compEnvC scope cl N env) (ρ ++ [x']) (f ++ g) (N :: D :: I :: X) σ' s₂ A := ⟨cx2, fr2, lk2⟩
  have il2 : IsL s₂.heap D ys n := m2.keep D _ (Ne.symm hND) (m1.keep D _ hDI t.il)
  have vs2 := m2.vrs hNX (m1.vrs hIX t.vs)
  have hns : compStep F q ce cond ρ x' acc σ' ≠ .stuck := fun e => hne (by rw [← hf, e]; rfl)
  have tests : Sim S A (N :: D :: I :: X) [] (f ++ g) (fun b t _ _ => b = t) (forIn ifs true fun c r => if r = true then do let ok ← isTrue c (compEnvC scope cl N env) (eval c (compEnvC scope cl N env)); pure (ForInStep.yield ok) else pure (ForInStep.yield r)) (evC F q cond (ρ ++ [x']) σ') s₂ := by
    rcases hcond with ⟨rfl, rfl⟩ | ⟨e, c, rfl, rfl, ht⟩
    · intro _
      rw [x_cnone]
      exact wpAny_tests_nil (QS.bool lk2 (.refl s₂))
    · intro hn
      rw [zFD] at hn ⊢
      exact wpAny_tests_one (ht _ _ _ _ _ _ _ st2 hn)
  unfold compStep at hns hf
  obtain ⟨b, σ₃, hb, hbk, hns2, wt⟩ := Sim.calm tests hns
  rw [hbk] at hf
  refine wpAny_mono (wt _) (fun ok' s₃ h₃ => ?_) fun _ _ x => x
  obtain ⟨g3, hg3, k3, lk3, hbe⟩ := h₃
  have hbe : ok' = b := hbe
  subst hbe
  have hXf : ∀ a ∈ N :: D :: I :: X, a ∉ addrs (f ++ g) := fun a ha => (lk2.hid a ha).2.1
  have it3 := it2.keepK k3 hg3 hIX hXf
  have kp3 : Kp f [] s s₃ := kp2.trans t.fresh k3
  have fg3 : Fresh (g ++ g3) s := t.fresh.trans kp2.live hg3
  have keepO : ∀ {s s' : Shared} {f : List Loc} {a : Addr} {o : Obj}, Kp f [] s s' → a ∉ addrs f → (∀ es n, o.data ≠ .dict es n) → s.heap.get? a = some o → s'.heap.get? a = some o := fun k h1 h2 e => by
    obtain ⟨o', e', q⟩ := k.kept _ _ e h1 (fun h => nomatch h)
    rw [e', q.exact h2]
  have il3 : IsL s₃.heap D ys n := keepO k3 (hXf D hDX) (fun _ _ h => by cases h) il2
  have ns3 := kp_ns k3 (hXf N hNX) (fun h => nomatch h) hn₂
  have vs3 := VRs.keepK k3 hg3 (fun _ h => nomatch h) vs2
  rw [List.append_assoc] at lk3 it3 vs3
  cases ok' with
  | false => exact ⟨k, Nat.lt_succ_self k, .mk (i + 1) acc σ₃ (g ++ g3) _ ys n hf ⟨fg3, kp3, lk3, it3, ns3, il3, vs3, t.len⟩⟩
  | true =>
    have hns2 : ((evE F q ce (ρ ++ [x']) σ₃).calmE.bind fun y σ => (if acc.length < LIM then R.ok (acc ++ [y]) σ else .stuck)) ≠ .stuck := hns2
    have hf : (((evE F q ce (ρ ++ [x']) σ₃).calmE.bind fun y σ => (if acc.length < LIM then R.ok (acc ++ [y]) σ else .stuck)).bind fun b σ => foldIt its (compStep F q ce cond ρ) k (i + 1) b σ) = total := hf
    have st3 : St S q d (Γ ++ [x]) scope (compEnvC scope cl N env) (ρ ++ [x']) ((f ++ g) ++ g3) (N :: D :: I :: X) σ₃ s₃ A := st2.keep hg3 k3 (by rw [List.append_assoc]; exact lk3)
    rw [List.append_assoc] at st3
    obtain ⟨y, σ₄, hy, hyk, hns3, we⟩ := Sim.calm (helt _ _ _ _ _ _ _ st3) hns2
    rw [hyk] at hf
    by_cases hlen : acc.length < LIM
    · rw [if_pos hlen] at hf
      show wpAny _ _ _ _ _ _
      refine wpAny_mono (we _) (fun yv s₄' h₄ => ?_) fun _ _ x => x
      obtain ⟨g4, hg4, k4, lk4, ry⟩ := h₄
      have ry : VR S (N :: D :: I :: X) ((f ++ (g ++ g3)) ++ g4) s₄'.heap y yv := ry
      have hXf3 : ∀ a ∈ N :: D :: I :: X, a ∉ addrs (f ++ (g ++ g3)) := fun a ha => (lk3.hid a ha).2.1
      have it4 := it3.keepK k4 hg4 hIX hXf3
      have kp4 : Kp f [] s s₄' := kp3.trans fg3 k4
      have fg4 : Fresh ((g ++ g3) ++ g4) s := fg3.trans kp3.live hg4
      have il4 : IsL s₄'.heap D ys n := keepO k4 (hXf3 D hDX) (fun _ _ h => by cases h) il3
      have ns4 := kp_ns k4 (hXf3 N hNX) (fun h => nomatch h) ns3
      have vs4 := VRs.keepK k4 hg4 (fun _ h => nomatch h) vs3
      rw [List.append_assoc] at lk4 it4 vs4 ry
      have hsz : ys.size ≤ sizeLine := by rw [zAJ vs4]; exact Nat.le_trans t.len zAO
      refine append_raw il4 ?_ hsz
      obtain ⟨n', il5⟩ := IsL.appended (x := yv) il4
      have m5 : Mv D s₄' { s₄' with heap := s₄'.heap.update D (Obj.mapSeq (·.push yv)) } :=
        ⟨rfl, fun b o hb e => (Heap.get?_update_other _ _ (Ne.symm hb)).trans e, ⟨_, il5⟩, fun o es n e dd => by rw [il4] at e; cases e; cases dd⟩
      obtain ⟨on4, es4, ep4, e5, e6⟩ := ns4
      refine ⟨k, Nat.lt_succ_self k, .mk (i + 1) (acc ++ [y]) σ₄ ((g ++ g3) ++ g4) _ (ys.push yv) n' hf ⟨fg4, kp4.mv m5 hD, m5.lk hDX lk4, it4.mv m5 hDX (Ne.symm hDI), ⟨on4, es4, ep4, m5.keep N on4 hND e5, e6⟩, il5, ?_, ?_⟩⟩
      · rw [Array.toList_push]
        exact zAt (m5.vrs hDX vs4) (by rw [VRs, VRs]; exact ⟨m5.vr hDX ry, trivial⟩)
      · rw [List.length_append]; exact hlen
    · rw [if_neg hlen] at hns3; exact absurd rfl hns3
end
end Mine
end

/-! # CompS4 -/
section
set_option autoImplicit false
namespace Mine
open PySem PyProof.Rows
section
variable {S : Stat} {C : Ctx} {T : Nat → Option Fn} {F : Calls} {q : Bool} {d : Nat} {Γ : List Str} {sc : Scope}
variable {X X' Y Z : List Addr} {f g : List Loc} {σ : Sto} {s s' : Shared} {A : Around} {E : Value → Shared → Prop} {I a : Addr} {its : Items} {i : Nat} {env : Env} {ρ : List V}
theorem zEx {scope : Scope} {x : Str} {px pos : Pos} {elt iter : Expr} {ifs : List Expr} {ce : CE} {cond : Option CE} {cl : List (Str × Addr)} {RR : Value → Addr → Result → Shared → Prop} {s₂ : Shared} {σ₁ : Sto}
    (st : St S q d Γ sc env ρ f X σ s A) (hh : A.handled = none) (ok : CompOk Γ sc scope x) (hcl : ∀ y, (y, NameKind.free) ∈ scope.names → ∃ c, cl.lookup y = some c ∧ env.cells.lookup y = some c)
    (hcond : (ifs = [] ∧ cond = none) ∨ ∃ e c, ifs = [e] ∧ cond = some c ∧ TOk S F q d (Γ ++ [x]) scope e c) (helt : EOk S F q d (Γ ++ [x]) scope elt ce)
    (hI : s.heap.get? I = none) (hg : Fresh g s) (k : Kp f [] s s₂) (L : Lk S (I :: X) (f ++ g) σ₁ s₂.heap) (x0 : ItAt S (I :: X) (f ++ g) s₂.heap I its 0)
    (hne : foldItems its (compStep F q ce cond ρ) [] σ₁ ≠ .stuck)
    (hR : ∀ N D acc σ' g m ys n s', s.heap.get? N = none → s.heap.get? D = none → N ≠ D → foldItems its (compStep F q ce cond ρ) [] σ₁ = .ok acc σ' → Fresh g s → Kp f [] s s' → Lk S (N :: D :: X) (f ++ g) σ' s'.heap → s'.heap.Ns N m → IsL s'.heap D ys n → VRs S (N :: D :: X) (f ++ g) s'.heap acc ys.toList → acc.length ≤ LIM → RR (.ref D) N (.ok .next) s')
    : wpAny (model S.prog S.w) A (newList []) (fun acc s₃ => wpAny (model S.prog S.w) A (newFunctionEnv scope env.globals cl [] env.qual none .none (some env)) (fun cenv s₄ =>
      codeAny (model S.prog S.w) A (.compStart (.ListComp elt [⟨.Name x px, iter, ifs, 0⟩] scope pos) 0 (.ref I) acc { cenv with scope := relabel scope env }) (RR acc cenv.locals) s₄) E s₃) E s₂ := by
  refine wpAny_newObj_type (wpAny_newFunctionEnv ok.cell (by intro y hy; simp at hy) (fun h₁ hns₁ hsb₁ => ?_) ok.kind)
  dsimp only at hns₁ hsb₁ ⊢
  generalize hH2 : s₂.heap.push { cls := .type "list", dict := none, data := .seq ([] : List Value).toArray } = H2 at hns₁ hsb₁ ⊢
  have hsz : H2.objs.size = s₂.heap.objs.size + 1 := by rw [← hH2, Heap.size_push]
  have hND : H2.objs.size ≠ s₂.heap.objs.size := by rw [hsz]; omega
  have ex1 : Ext s₂ { s₂ with heap := H2 } := ⟨rfl, fun b o e => hH2 ▸ Heap.get?_push_of_some _ e⟩
  have nD : s₂.heap.get? s₂.heap.objs.size = none := zAd _
  have lD : H2.get? s₂.heap.objs.size = some { cls := .type "list", dict := none, data := .seq ([] : List Value).toArray } := hH2 ▸ Heap.get?_push_size _ rfl
  have nN : H2.get? H2.objs.size = none := zAd _
  have ex2 : Ext { s₂ with heap := H2 } { s₂ with heap := h₁, toks := s₂.toks + ([] : List (Str × Value)).length } := ⟨rfl, fun b o e => (hsb₁.2 b (fun q => by subst q; rw [nN] at e; cases e)).trans (Heap.get?_push_of_some _ e)⟩
  obtain ⟨oN, esN, epN, eN, _⟩ := id hns₁
  have L1 : Lk S (s₂.heap.objs.size :: I :: X) (f ++ g) σ₁ H2 := L.hideNew ex1 nD lD
  have it1 := x0.hideNew (s' := { s₂ with heap := H2 }) ex1 nD
  have L2 : Lk S (H2.objs.size :: s₂.heap.objs.size :: I :: X) (f ++ g) σ₁ h₁ := Lk.hideNew (s := { s₂ with heap := H2 }) (s' := { s₂ with heap := h₁, toks := s₂.toks + ([] : List (Str × Value)).length }) L1 ex2 nN eN
  have it2 := ItAt.hideNew (s := { s₂ with heap := H2 }) (s' := { s₂ with heap := h₁, toks := s₂.toks + ([] : List (Str × Value)).length }) ex2 nN it1
  have k2 : Kp f [] s { s₂ with heap := h₁, toks := s₂.toks + ([] : List (Str × Value)).length } := k.trans hg ((ex1.trans ex2).kp _ _)
  have hD : s.heap.get? s₂.heap.objs.size = none := zAS k.live nD
  have hN : s.heap.get? H2.objs.size = none := zAS k.live (Heap.get?_none_of_le (by rw [hsz]; omega))
  have lI : ∃ o, s₂.heap.get? I = some o := (L.hid I (by simp)).2.2
  have hDI : s₂.heap.objs.size ≠ I := fun q => by obtain ⟨o, e⟩ := lI; rw [← q, nD] at e; cases e
  have hNI : H2.objs.size ≠ I := fun q => by obtain ⟨o, e⟩ := lI; rw [← q, Heap.get?_none_of_le (by rw [hsz]; omega)] at e; cases e
  have turn : Turn S s X f H2.objs.size s₂.heap.objs.size I its 0 [] σ₁ g (fun x => ([] : List (Str × Value)).reverse.lookup x) #[] 0 { s₂ with heap := h₁, toks := s₂.toks + ([] : List (Str × Value)).length } :=
    ⟨hg, k2, L2, it2, hns₁, ex2.keep _ _ lD, (by show VRs S _ _ h₁ [] []; rw [VRs]; trivial), by simp⟩
  have loop : codeAny (model S.prog S.w) A (.compLoop (.ListComp elt [⟨.Name x px, iter, ifs, 0⟩] scope pos) 0 (.ref I) (.ref s₂.heap.objs.size) (compEnvC scope cl H2.objs.size env)) (RR (.ref s₂.heap.objs.size) H2.objs.size) { s₂ with heap := h₁, toks := s₂.toks + ([] : List (Str × Value)).length } :=
    comp_loop st hh ok hcl hcond helt hN hD hI hND hNI hDI hne rfl turn (fun acc σ' g m ys n s' e1 e2 e3 e4 e5 e6 e7 e8 => hR _ _ acc σ' g m ys n s' hN hD hND e1 e2 e3 e4 e5 e6 e7 e8)
  exact codeAny_compStart_list loop (iter_self it2 loop)
theorem FR.closure {scope : Scope} {x : Str} {h : Heap} (fr : FR S X f h env Γ sc ρ) (ok : CompOk Γ sc scope x) : ∃ cl, closureFor scope env = pure cl ∧ ∀ y, (y, NameKind.free) ∈ scope.names → ∃ c, cl.lookup y = some c ∧ env.cells.lookup y = some c :=
  closure_of fun n hn => by
    obtain ⟨c, o, e, _⟩ := fr.cells n (fr.cellKind (ok.free _ hn rfl))
    exact ⟨c, e⟩
theorem zCz {elt : CE} {k : SK} {cs : List CE} {cond : Option CE} (hq : q = false) : evE F q (.comp elt k cs cond) ρ σ = ((evL F q cs ρ σ).bind fun vs σ => R.lift σ (itemsBy σ k vs)).bind fun its σ => (foldItems its (compStep F q elt cond ρ) [] σ).bind fun acc σ => .ok (.lst acc) σ := by
  subst hq
  rw [x_comp, if_neg (by simp), R.bind_assoc]
  rfl
theorem ok_comp {scope : Scope} {x : Str} {px pos : Pos} {elt iter : Expr} {ifs : List Expr} {ce : CE} {cond : Option CE} {k : SK} {cs : List CE} (ok : CompOk Γ sc scope x) (hsrc : SrcOk S F q d Γ sc iter k cs)
    (hcond : (ifs = [] ∧ cond = none) ∨ ∃ e c, ifs = [e] ∧ cond = some c ∧ TOk S F q d (Γ ++ [x]) scope e c) (helt : EOk S F q d (Γ ++ [x]) scope elt ce) :
    NOk S F q d Γ sc (.ListComp elt [⟨.Name x px, iter, ifs, 0⟩] scope pos) (.comp ce k cs cond) := fun env ρ f X σ s A st hne => by
  have hq : q = false := by
    cases q with
    | false => rfl
    | true => rw [x_comp] at hne; exact absurd rfl hne
  rw [zCz hq] at hne ⊢
  obtain ⟨cl, hclos, hcl⟩ := st.fr.closure ok
  rw [eval_ListComp]
  refine wpAny_comprehension_free (g := ⟨.Name x px, iter, ifs, 0⟩) (gs := []) rfl (hsrc.1 env) hclos ok.kind (fun p hp e => (ok.loc p hp e).2) ?_
  have hr : ((evL F q cs ρ σ).bind fun vs σ => R.lift σ (itemsBy σ k vs)) ≠ .stuck := fun e => hne (by rw [e]; rfl)
  refine wpAny_mono (hsrc.2 env ρ f X σ s A st hr) (fun xv s₁ h₁ => wpAny_mono h₁ (fun it s₂ h₂ => ?_) fun e s' h => ?_) fun e s' h => ?_
  · obtain ⟨its, σ₁, g, I, e1, rfl, hI, hIX, hg, kk, L, x0⟩ := h₂
    rw [e1, R.bind_ok] at hne ⊢
    have hne2 : foldItems its (compStep F q ce cond ρ) [] σ₁ ≠ .stuck := fun e => hne (by rw [e]; rfl)
    refine zEx st (st.cx.hand hq) ok hcl hcond helt hI hg kk L x0 hne2 (fun N D acc σ' g' m ys n s' hN hD hND e2 hg' k' L' hns il vs hlen => ?_)
    rw [e2]
    refine ⟨m, hns, fun h' hs => ?_⟩
    have hkk : ∀ b o, b ∉ [N] → s'.heap.get? b = some o → h'.get? b = some o := fun b o hb e => (hs.2 b (fun q => hb (q ▸ List.mem_singleton.mpr rfl))).trans e
    have hNX : N ∉ X := (st.lk.new hN).2
    have hDX : D ∉ X := (st.lk.new hD).2
    have LD : Lk S (D :: X) (f ++ g') σ' h' := L'.drop (Z := [N]) (fun a ha => ⟨List.mem_cons_of_mem _ ha, fun h => by
      have := List.mem_singleton.mp h
      subst this
      exact (List.mem_cons.mp ha).elim hND hNX⟩) (fun a ha => List.mem_singleton.mp ha ▸ List.mem_cons_self) hkk
    have vD : VRs S (D :: X) (f ++ g') h' acc ys.toList := VRs.drop (Z := [N]) (fun a ha => List.mem_cons_of_mem _ ha) (fun a ha => List.mem_singleton.mp ha ▸ List.mem_cons_self) hkk vs
    have iD : IsL h' D ys n := (hs.2 D (Ne.symm hND)).trans il
    refine ⟨.lst acc, σ', g', rfl, hg', k'.ends (Z := [N]) rfl hkk (fun b hb => List.mem_singleton.mp hb ▸ hN), LD.less fun a ha => List.mem_cons_of_mem _ ha, ?_, fun xs hxs => ?_⟩
    · rw [VR]
      exact ⟨D, ys, n, rfl, ⟨(LD.hid D List.mem_cons_self).2.1, hDX⟩, iD, vD.less fun a ha => List.mem_cons_of_mem _ ha, hlen⟩
    · cases hxs
      exact ⟨D, ys, n, rfl, hD, hDX, LD, iD, vD, hlen⟩
  · obtain ⟨c, σ', g, ea, e1, e2, hgE, kE, LE, xE⟩ := h
    exact ⟨c, σ', g, ea, e1, by rw [e2]; rfl, hgE, kE, LE, xE⟩
  · obtain ⟨c, σ', g, ea, e1, e2, hgE, kE, LE, xE⟩ := h
    exact ⟨c, σ', g, ea, e1, by rw [e2]; rfl, hgE, kE, LE, xE⟩
end
end Mine
end

/-! # Expr6 -/
section
set_option autoImplicit false
namespace Mine
open PySem PyProof.Rows
section
variable {S : Stat} {C : Ctx} {T : Nat → Option Fn} {F : Calls} {q : Bool} {d : Nat} {Γ : List Str} {sc : Scope}
variable {X X' Y Z : List Addr} {f g : List Loc} {σ : Sto} {s s' : Shared} {A : Around} {E : Value → Shared → Prop} {env : Env} {ρ : List V}
theorem few1 {e : Expr} {pos : Pos} (hs : isStar e = false) : ((backTo pos (starEach [e] env)).all (fun x => !x.1) && (backToKw pos (keywordEach [] env)).all (fun x => x.1.isSome)
      && decide ([e].length + ([] : List Keyword).length + (if ([] : List Keyword).isEmpty then 0 else 1) < 30)) = true := by
  rw [zAQ hs]; rfl
theorem few0 {pos : Pos} : ((backTo pos (starEach [] env)).all (fun x => !x.1) && (backToKw pos (keywordEach [] env)).all (fun x => x.1.isSome)
      && decide (([] : List Expr).length + ([] : List Keyword).length + (if ([] : List Keyword).isEmpty then 0 else 1) < 30)) = true := rfl
theorem zFE {n : Nat} {ax : Addr} {xs : List V} {vs : Array Value} {k : Nat} {fn : Array Value → Array Value} (L : Lk S X f σ s.heap) (hn : f[n]? = some (ax, none)) (il : IsL s.heap ax vs k) (rs : VRs S X f s.heap xs (fn vs).toList) (hl : xs.length ≤ LIM) :
    Lk S X f (σ.set n (.list xs)) (s.heap.update ax (Obj.mapSeq fn)) ∧ Kp f [] s { s with heap := s.heap.update ax (Obj.mapSeq fn) } := by
  have hs : ∀ b o, b ∉ Loc.addrs (ax, none) → s.heap.get? b = some o → (s.heap.update ax (Obj.mapSeq fn)).get? b = some o := fun b o hb e => (Heap.get?_update_other s.heap (Obj.mapSeq fn) (fun q : ax = b => hb (by rw [q]; exact List.mem_singleton.mpr rfl))).trans e
  have il' := IsL.update il fn
  have hax : ax ∈ addrs f := zAX hn (List.mem_singleton.mpr rfl)
  refine ⟨L.upd hn hs ⟨_, _, il', ?_, hl⟩, Kp.upd (t := s.toks) hn hs fun a ha => ⟨_, by have := List.mem_singleton.mp ha; subst this; exact il'⟩⟩
  exact VRs.keep (fun _ _ e => e) (fun b ob q h1 h2 => ⟨⟨h1, h2⟩, ob, hs b ob (fun z => h1 (List.mem_singleton.mp z ▸ hax)) q, .refl ob⟩) _ _ rs
inductive Tracked (S : Stat) (X : List Addr) (f : List Loc) (h : Heap) (xs : List V) (n : Nat) (v : Value) : Prop
  | mk (ax : Addr) (vs : Array Value) (k : Nat) (e : v = .ref ax) (hf : f[n]? = some (ax, none)) (i : IsL h ax vs k) (p : VRs S X f h xs vs.toList) (hl : xs.length ≤ LIM)
theorem zBR {n : Nat} {v : Value} {xs : List V} (L : Lk S X f σ s.heap) (r : VR S X f s.heap (.ref n) v) (ho : σ[n]? = some (.list xs)) : Tracked S X f s.heap xs n v := by
  rw [VR] at r
  obtain ⟨⟨ax, dd⟩, hl, rfl⟩ := r
  have := L.obj n _ _ hl ho
  cases dd with
  | none => obtain ⟨vs, k, il, rs, h⟩ := this; exact ⟨ax, vs, k, rfl, hl, il, rs, h⟩
  | some dd => exact this.elim
theorem ok_append {o x : Expr} {a b : CE} {apos pos : Pos} (hb : noSuper o = true) (hp : (apos.endLine == pos.line) = true) (hs : isStar x = false) (ho : EOk S F q d Γ sc o a) (hx : EOk S F q d Γ sc x b) :
    EOk S F q d Γ sc (.Call (.Attribute o ("append" : Str) apos) [x] [] pos) (.append a b) := fun env ρ f X σ s A st hne => by
  rw [zHU] at hne ⊢
  refine wpAny_Call_method (zAs hb) (few1 hs) hp PySem.F.plainAttrs_list slot_list_append type_list_append ?_
  refine Sim.goQ (P' := PV S X) (ho env ρ f X σ s A st) hne (fun _ _ x => x) (fun _ _ x => x) fun va a' σ₁ g₁ s₁ hne hg k L ra hQ hE => ?_
  by_cases hil : isListV σ₁ a' = true
  · rw [if_pos hil] at hne hQ hE
    obtain ⟨xs₁, hxs₁⟩ := Option.isSome_iff_exists.mp hil
    obtain ⟨p, vs, n, rfl, il, rs, hlen⟩ := zAV L hxs₁ ra
    refine ⟨⟨_, il, rfl⟩, fun b hb => ⟨_, by cases hb; exact il, rfl⟩, ?_⟩
    rw [zAQ hs]
    show wpAny _ _ (callWith pos (.builtin "list.append") [.ref p] [(false, eval x env)] []) _ _ _
    refine P.append_list ?_
    refine Sim.goQ (P' := PV S X) (hx env ρ _ X σ₁ s₁ A (st.keep hg k L)) hne hQ hE fun vb b' σ₂ g₂ s₂ hne hg₂ k₂ L₂ rb hQ hE => ?_
    have ra₂ := VR.keepK k₂ hg₂ (fun _ h => nomatch h) ra
    cases a' with
    | ref m =>
      simp only [doAppend] at hne hQ
      split at hne
      · rename_i xs hσ
        split at hne
        · rename_i hlt
          rw [hσ] at hQ
          simp only [if_pos hlt] at hQ
          obtain ⟨ax, vs', k', e, hf, il', rs', hlen'⟩ := zBR L₂ ra₂ hσ
          cases e
          refine ⟨vs', k', by rw [zAJ rs']; exact Nat.le_trans hlen' zAO, il', hQ _ _ ?_⟩
          obtain ⟨L3, k3⟩ := zFE (fn := fun xs => xs.push vb) (xs := xs ++ [b']) L₂ hf il' (by rw [Array.toList_push]; exact zAt rs' (by rw [VRs, VRs]; exact ⟨rb, trivial⟩)) (by rw [List.length_append]; exact hlt)
          exact ⟨.none, _, [], rfl, .nil _, k3, by rw [List.append_nil]; exact L3, (by show VR S X _ _ .none .none; rw [VR])⟩
        · exact absurd rfl hne
      · exact absurd rfl hne
    | _ => exact absurd rfl hne
  · rw [if_neg hil] at hne; exact absurd rfl hne
theorem zGg {h : Heap} : ∀ {xs : List V} {vs : List Value} (i : Nat), VRs S X f h xs vs → VRs S X f h (xs.eraseIdx i) (vs.eraseIdx i)
  | [], [], _, r => r
  | [], _ :: _, _, r => by rw [VRs] at r; exact r.elim
  | _ :: _, [], _, r => by rw [VRs] at r; exact r.elim
  | _ :: _, _ :: _, 0, r => by rw [VRs] at r; exact r.2
  | _ :: _, _ :: _, i + 1, r => by rw [VRs] at r; rw [List.eraseIdx_cons_succ, List.eraseIdx_cons_succ, VRs]; exact ⟨r.1, zGg i r.2⟩
theorem ok_pop {o : Expr} {a : CE} {apos pos : Pos} (hb : noSuper o = true) (hp : (apos.endLine == pos.line) = true) (ho : EOk S F q d Γ sc o a) :
    EOk S F q d Γ sc (.Call (.Attribute o ("pop" : Str) apos) [] [] pos) (.pop a) := fun env ρ f X σ s A st hne => by
  rw [x_pop] at hne ⊢
  refine wpAny_Call_method (zAs hb) few0 hp PySem.F.plainAttrs_list PySem.F.slot_list_pop PySem.F.type_list_pop ?_
  refine Sim.goQ (P' := PV S X) (ho env ρ f X σ s A st) hne (fun _ _ x => x) (fun _ _ x => x) fun va a' σ₁ g₁ s₁ hne hg k L ra hQ hE => ?_
  cases a' with
  | ref m =>
    simp only [doPop] at hne hQ
    split at hne
    · rename_i xs hσ
      split at hne
      · rename_i y hy
        rw [hσ] at hQ
        simp only [hy] at hQ
        obtain ⟨ax, vs, k', rfl, hf, il, rs, hlen⟩ := zBR L ra hσ
        refine ⟨⟨_, il, rfl⟩, fun b hb => ⟨_, by cases hb; exact il, rfl⟩, ?_⟩
        show wpAny _ _ (callWith pos (.builtin "list.pop") [.ref ax] [] []) _ _ _
        obtain ⟨w, hw, rw'⟩ := zBu rs hy
        have hz := zAJ rs
        obtain ⟨L3, k3⟩ := zFE (fn := fun xs => xs.eraseIdxIfInBounds (vs.size - 1)) (xs := xs.eraseIdx (xs.length - 1)) L hf il (by rw [Array.toList_eraseIdxIfInBounds, hz]; exact zGg _ rs) (Nat.le_trans (List.length_eraseIdx_le _ _) hlen)
        refine P.pop_list il (by rw [hz, ← Array.getElem?_toList]; exact hw) (hQ _ _ ⟨y, _, [], rfl, .nil _, k3, by rw [List.append_nil]; exact L3, VR.keepK k3 (.nil _) (fun _ h => nomatch h) rw'⟩) (by rw [hz]; exact Nat.le_trans hlen zAO)
      · exact absurd rfl hne
    · exact absurd rfl hne
  | _ => exact absurd rfl hne
theorem ok_sm_by {o x : Expr} {a b : CE} {apos pos : Pos} {m : Str} {id : String} {p : P2} (hso : ∀ σ a, selfOk p σ a = (strOf? a).isSome) (slot : Slot "str" m id) (hty : typeOf (.builtin id) = pure (.type "method_descriptor"))
    (op : ∀ (X : List Addr) (f : List Loc) (σ : Sto) (s : Shared) (A : Around) (E : Value → Shared → Prop) (a b x : V) (va vb : Value), Lk S X f σ s.heap → ev2 p σ a b = some x → VR S X f s.heap a va → VR S X f s.heap b vb → wpAny (model S.prog S.w) A (call (.builtin id) [va, vb]) (PE S X f s x) E s)
    (hb : noSuper o = true) (hp : (apos.endLine == pos.line) = true) (hs : isStar x = false) (ho : EOk S F q d Γ sc o a) (hx : EOk S F q d Γ sc x b) :
    EOk S F q d Γ sc (.Call (.Attribute o m apos) [x] [] pos) (.sm p a b) := fun env ρ f X σ s A st hne => by
  rw [x_sm] at hne ⊢
  refine wpAny_Call_method (zAs hb) (few1 hs) hp PySem.F.plainAttrs_str slot hty ?_
  refine Sim.goN (ho env ρ f X σ s A st) hne (fun _ _ x => x.qs) (fun _ _ x => x) fun va a' σ₁ g₁ s₁ hne hg k L ra hQ hE => ?_
  rw [hso] at hne hQ hE
  by_cases hil : (strOf? a').isSome = true
  · rw [if_pos hil] at hne hQ hE
    obtain ⟨y, hy⟩ := Option.isSome_iff_exists.mp hil
    cases a' <;> cases hy
    obtain ⟨⟨t, rfl⟩, _⟩ := zAY ra
    refine ⟨typeIs_str _ _ _, (fun _ e => nomatch e), zAP (zAK _ (by rw [List.any_cons, hs]; rfl)) (spliced1 hs ?_)⟩
    refine Sim.goN (hx env ρ _ X σ₁ s₁ A (st.keep hg k L)) hne hQ hE fun vb b' σ₂ g₂ s₂ hne hg₂ k₂ L₂ rb hQ hE => ?_
    obtain ⟨x, hx⟩ := zAb hne
    rw [hx] at hQ
    exact ⟨zAR (by simp), wpAny_mono (op X _ σ₂ s₂ A _ _ b' x _ vb L₂ hx (VR.keepK k₂ hg₂ (fun _ h => nomatch h) ra) rb) (fun v s' p => hQ v s' (p.here L₂)) fun _ _ x => x⟩
  · rw [if_neg hil] at hne; exact absurd rfl hne
theorem isBool_vs {xs : List V} (k : Bool) : ∀ {vs : List Value}, VRs S X f s.heap xs vs → (xs.all fun x => isBool true x || isBool false x) = true → (∀ y ∈ vs, ∃ b, y = .bool b) ∧ vs.countP (isBoolOf k) = xs.countP (isBool k) := by
  induction xs with
  | nil =>
    intro vs r _
    cases vs with
    | nil => exact ⟨fun y hy => (nomatch hy), rfl⟩
    | cons _ _ => rw [VRs] at r; exact r.elim
  | cons x xs ih =>
    intro vs r ha
    cases vs with
    | nil => rw [VRs] at r; exact r.elim
    | cons v vs =>
      rw [VRs] at r
      rw [List.all_cons, Bool.and_eq_true] at ha
      obtain ⟨h1, h2⟩ := ih r.2 ha.2
      cases x with
      | bool b =>
        obtain rfl := zAu r.1
        refine ⟨fun y hy => ?_, ?_⟩
        · rcases List.mem_cons.mp hy with rfl | hy
          · exact ⟨b, rfl⟩
          · exact h1 y hy
        · rw [List.countP_cons, List.countP_cons, h2]; rfl
      | _ => exact ff_tt ha.1
theorem zGa {a b x : V} {va vb : Value} (L : Lk S X f σ s.heap) (e : ev2 .count σ a b = some x) (ra : VR S X f s.heap a va) (rb : VR S X f s.heap b vb) : wpAny (model S.prog S.w) A (call (.builtin "list.count") [va, vb]) (PE S X f s x) E s := by
  have e : countV σ a b = some x := e
  cases b with
  | bool k =>
    have e : ((listOf? σ a).bind fun xs => if xs.all fun x => isBool true x || isBool false x then some (.int (xs.countP (isBool k) : Nat)) else none) = some x := e
    obtain ⟨xs, hxs, e⟩ := Option.bind_eq_some_iff.mp e
    obtain ⟨p, vs, n, rfl, il, rs, _⟩ := zAV L hxs ra
    obtain rfl := zAu rb
    split at e
    · rename_i ha
      cases e
      obtain ⟨h1, h2⟩ := isBool_vs k rs ha
      refine call_meets PySem.F.slot_list_count ⟨_, il, rfl⟩ PySem.F.entry_list_count (PySem.F.args_list_count_2 _ _) (SeqAt.list_countAt p vs n none #[] (.bool k) (isBoolOf k)) ⟨il, fun y hy => ?_, ?_⟩
      · obtain ⟨b, rfl⟩ := h1 y (by simpa using hy)
        exact SeqAt.EqAt.bool_bool b k
      · rw [h2]; exact .int
    · exact zAA e
  | _ => exact zAA e
theorem ok_count {o x : Expr} {a b : CE} {apos pos : Pos} (hb : noSuper o = true) (hp : (apos.endLine == pos.line) = true) (hs : isStar x = false) (ho : EOk S F q d Γ sc o a) (hx : EOk S F q d Γ sc x b) :
    EOk S F q d Γ sc (.Call (.Attribute o ("count" : Str) apos) [x] [] pos) (.sm .count a b) := fun env ρ f X σ s A st hne => by
  rw [x_sm] at hne ⊢
  refine wpAny_Call_method (zAs hb) (few1 hs) hp PySem.F.plainAttrs_list PySem.F.slot_list_count PySem.F.type_list_count ?_
  refine Sim.goN (ho env ρ f X σ s A st) hne (fun _ _ x => x.qs) (fun _ _ x => x) fun va a' σ₁ g₁ s₁ hne hg k L ra hQ hE => ?_
  by_cases hil : selfOk .count σ₁ a' = true
  · rw [if_pos hil] at hne hQ hE
    obtain ⟨xs₁, hxs₁⟩ := Option.isSome_iff_exists.mp hil
    obtain ⟨p, vs, n, rfl, il, rs, hlen⟩ := zAV L hxs₁ ra
    refine ⟨⟨_, il, rfl⟩, fun b hb => ⟨_, by cases hb; exact il, rfl⟩, zAP (zAK _ (by rw [List.any_cons, hs]; rfl)) (spliced1 hs ?_)⟩
    refine Sim.goN (hx env ρ _ X σ₁ s₁ A (st.keep hg k L)) hne hQ hE fun vb b' σ₂ g₂ s₂ hne hg₂ k₂ L₂ rb hQ hE => ?_
    obtain ⟨x, hx⟩ := zAb hne
    rw [hx] at hQ
    exact ⟨zAR (by simp), wpAny_mono (zGa L₂ hx (VR.keepK k₂ hg₂ (fun _ h => nomatch h) ra) rb) (fun v s' p => hQ v s' (p.here L₂)) fun _ _ x => x⟩
  · rw [if_neg hil] at hne; exact absurd rfl hne
theorem ok_sm {o x : Expr} {a b : CE} {apos pos : Pos} {m : Str} {p : P2} (hm : m1Names.lookup m = some p) (hb : noSuper o = true) (hp : (apos.endLine == pos.line) = true) (hs : isStar x = false) (ho : EOk S F q d Γ sc o a) (hx : EOk S F q d Γ sc x b) :
    EOk S F q d Γ sc (.Call (.Attribute o m apos) [x] [] pos) (.sm p a b) := by
  have hm := zAG hm
  simp only [m1Names, List.mem_cons, Prod.mk.injEq, List.not_mem_nil, or_false] at hm
  rcases hm with ⟨rfl, rfl⟩
    | ⟨rfl, rfl⟩
  · exact ok_sm_by (fun _ _ => rfl) PySem.F.slot_str_join PySem.F.type_str_join (fun _ _ _ _ _ _ _ _ _ _ _ L e ra rb => join_sound L e ra rb) hb hp hs ho hx
  · exact ok_count hb hp hs ho hx
end
end Mine
end

/-! # Stmt1 -/
section
set_option autoImplicit false
namespace Mine
open PySem PyProof.Rows
noncomputable def ya (env : Env) : List Addr := env.locals :: env.cells.map (·.2)
structure FW (env : Env) (X : List Addr) : Prop where
  loc : env.locals ∈ X
  mem : ∀ p ∈ env.cells, p.2 ∈ X
  inj : ∀ x y c, env.cells.lookup x = some c → env.cells.lookup y = some c → x = y
theorem FW.cellX {env : Env} {X : List Addr} (fw : FW env X) (x : Str) (c : Addr) (h : env.cells.lookup x = some c) : c ∈ X := fw.mem _ (zAG h)
theorem zEs {β : Type} {x : Str} {y : β} : ∀ {l : List (Str × β)}, l.lookup x = some y → y ∈ l.map (·.2) := fun h => List.mem_map_of_mem (f := (·.2)) (zAG h)
noncomputable def FlR (S : Stat) (X : List Addr) (f : List Loc) (h : Heap) (env : Env) (Γ : List Str) (sc : Scope) : Fl → Flow → Prop
  | .next ρ, fl => fl = .next ∧ FR S X f h env Γ sc ρ
  | .ret v, fl => ∃ w, fl = .ret w ∧ VR S X f h v w
inductive QF (S : Stat) (X : List Addr) (env : Env) (Γ : List Str) (sc : Scope) (f : List Loc) (s : Shared) (r : R Fl) (fl : Flow) (s' : Shared) : Prop where
  | mk (x : Fl) (σ' : Sto) (g : List Loc) (e : r = .ok x σ') (hg : Fresh g s) (k : Kp f (ya env) s s') (L : Lk S X (f ++ g) σ' s'.heap) (p : FlR S X (f ++ g) s'.heap env Γ sc x fl)
section
variable (S : Stat) (F Fq : Calls) (q : Bool) (d : Nat)
noncomputable def SOk (Γ : List Str) (sc : Scope) (st : Stmt) (c : CS) : Prop := ∀ (env : Env) (ρ : List V) (f : List Loc) (X : List Addr) (σ : Sto) (s : Shared) (A : Around), St S q d Γ sc env ρ f X σ s A → FW env X →
  exS F Fq q c ρ σ ≠ .stuck → wpAny (model S.prog S.w) A (exec st env) (QF S X env Γ sc f s (exS F Fq q c ρ σ)) (ES S X (ya env) f false s (exS F Fq q c ρ σ)) s
noncomputable def LSOk (Γ : List Str) (sc : Scope) (st : List Stmt) (c : List CS) : Prop := ∀ (env : Env) (ρ : List V) (f : List Loc) (X : List Addr) (σ : Sto) (s : Shared) (A : Around), St S q d Γ sc env ρ f X σ s A → FW env X →
  exL F Fq q c ρ σ ≠ .stuck → wpAny (model S.prog S.w) A (execs st env) (QF S X env Γ sc f s (exL F Fq q c ρ σ)) (ES S X (ya env) f false s (exL F Fq q c ρ σ)) s
end
section
variable {S : Stat} {C : Ctx} {T : Nat → Option Fn} {F Fq : Calls} {q : Bool} {d : Nat} {Γ : List Str} {sc : Scope}
variable {X X' Y Z : List Addr} {f g : List Loc} {σ : Sto} {s s' : Shared} {A : Around} {E : Value → Shared → Prop} {I a : Addr} {its : Items} {i : Nat} {env : Env} {ρ : List V}
theorem QF.lifts : Lifts (ya env) (fun f s r a s' => QF S X env Γ sc f s r a s') := fun f g s s₁ r c s' hg k q => by
  obtain ⟨b', σ'', g', e, hg', k', L, p⟩ := q
  rw [List.append_assoc] at L p
  exact ⟨b', σ'', g ++ g', e, hg.trans k.live hg', k.trans hg k', L, p⟩
theorem Sim.goS {α β : Type} {P : α → β → List Loc → Shared → Prop}
    {t : Sem α} {r : R β} {rk : β → Sto → R Fl} {W : α → Shared → Prop} {Q' : Flow → Shared → Prop} {E' : Value → Shared → Prop} (h : Sim S A X [] f P t r s) (hne : r.bind rk ≠ .stuck)
    (hQ : ∀ c s'', QF S X env Γ sc f s (r.bind rk) c s'' → Q' c s'') (hE : ∀ e s'', ES S X (ya env) f false s (r.bind rk) e s'' → E' e s'')
    (hk : ∀ a b σ' g s', rk b σ' ≠ .stuck → Fresh g s → Kp f [] s s' → Lk S X (f ++ g) σ' s'.heap → P a b (f ++ g) s' → (∀ c s'', QF S X env Γ sc (f ++ g) s' (rk b σ') c s'' → Q' c s'') →
      (∀ e s'', ES S X (ya env) (f ++ g) false s' (rk b σ') e s'' → E' e s'') → W a s') : wpAny (model S.prog S.w) A t W E' s := by
  have hr : r ≠ .stuck := fun e => hne (by rw [e]; rfl)
  refine wpAny_mono (h hr) (fun a s' q => ?_) fun e s' q => hE e s' ?_
  · obtain ⟨b, σ', g, rfl, hg, k, L, p⟩ := q
    have ky : Kp f (ya env) s s' := k.mono fun a h => nomatch h
    exact hk a b σ' g s' hne hg k L p (fun c s'' q => hQ c s'' (QF.lifts f g s s' _ c s'' hg ky q)) fun e s'' q => hE e s'' (ES.lifts f g s s' _ e s'' hg ky q)
  · obtain ⟨c, σ', g, ea, e1, rfl, hg, k, L, x⟩ := q
    exact ⟨c, σ', g, ea, e1, rfl, hg, (k.mono fun a h => nomatch h), L, x⟩
theorem zBH {y : Str} : ∀ {Γ : List Str} {i : Nat}, lastIdx y Γ = some i → Γ[i]? = some y
  | [], i, h => by simp [lastIdx] at h
  | z :: Γ, i, h => by
    simp only [lastIdx] at h
    split at h
    · rename_i j hj; cases h; simpa using zBH hj
    · split at h
      · rename_i e; cases h; rw [eq_of_beq e]; rfl
      · first | exact zAA h | exact ff_tt h | cases h
theorem zDp {x : Str} (h : slotOf Γ sc x = some i) : (sc.names.lookup x = some .local ∨ sc.names.lookup x = some .cell) ∧ lastIdx x Γ = some i := by
  unfold slotOf at h
  split at h
  · rename_i e
    simp only [Bool.or_eq_true] at e
    exact ⟨e.imp (fun q => eq_of_beq q) fun q => eq_of_beq q, h⟩
  · first | exact zAA h | exact ff_tt h | cases h
theorem FR.mv (m : Mv a s s') (ha : a ∈ X) (hl : env.locals ≠ a) (hc : ∀ x c, env.cells.lookup x = some c → c ≠ a) (fr : FR S X f s.heap env Γ sc ρ) : FR S X f s'.heap env Γ sc ρ := by
  have ns : ∀ {b : Addr} {m' : Str → Option Value}, b ≠ a → s.heap.Ns b m' → s'.heap.Ns b m' := fun hb h => by
    obtain ⟨o, es, ep, ho, r⟩ := h
    exact ⟨o, es, ep, m.keep _ _ hb ho, r⟩
  have cl : ∀ {b : Addr} {m' : Option Value}, b ≠ a → s.heap.IsCell b m' → s'.heap.IsCell b m' := fun hb h => by
    obtain ⟨o, ho, r⟩ := h
    exact ⟨o, m.keep _ _ hb ho, r⟩
  refine ⟨fr.kind, fr.glob, fr.blt, fr.names, ⟨fr.loc.1, let ⟨m', h⟩ := fr.loc.2; ⟨m', ns hl h⟩⟩, fun x hx => ?_, fun x i v h1 h2 h3 h4 => ?_, fr.len⟩
  · obtain ⟨c, o, e1, hX, h⟩ := fr.cells x hx
    exact ⟨c, o, e1, hX, cl (hc x c e1) h⟩
  · obtain ⟨w, h5, h6⟩ := fr.vals x i v h1 h2 h3 h4
    refine ⟨w, ?_, m.vr ha h6⟩
    rcases h5 with ⟨k, m', h7, h8⟩ | ⟨k, c, h7, h8⟩
    · exact .inl ⟨k, m', ns hl h7, h8⟩
    · exact .inr ⟨k, c, h7, cl (hc x c h7) h8⟩
theorem zAa {x : Str} {v : V} {w : Value} {Q : Unit → Shared → Prop} (fr : FR S X f s.heap env Γ sc ρ) (fw : FW env X) (hx : slotOf Γ sc x = some i) (r : VR S X f s.heap v w)
    (h : ∀ a s', a ∈ ya env → a ∈ X → Mv a s s' → FR S X f s'.heap env Γ sc (ρ.set i v) → Q () s') : wpAny (model S.prog S.w) A (storeName env x w) Q E s := by
  obtain ⟨hk, hi⟩ := zDp hx
  have hkind : env.kindOf x = some .local ∨ env.kindOf x = some .cell := by
    rcases fr.names x with e | ⟨e, _⟩
    · rw [e]; exact hk
    · rcases hk with h | h <;> rw [h] at e <;> cases e
  have hvx : isVar sc x = true := by unfold isVar; rcases hk with h | h <;> rw [h]
  have hil : i < ρ.length := by rw [fr.len]; exact zBe hi
  obtain ⟨m, hm⟩ := fr.loc.2
  have same : ∀ y, lastIdx y Γ = some i → y = x := fun y hy => by
    have h1 := zBH hy
    rw [zBH hi] at h1; cases h1; rfl
  have setv : ∀ {j : Nat} {v' : V}, (ρ.set i v)[j]? = some v' → j ≠ i → ρ[j]? = some v' := fun h hne => by rwa [List.getElem?_set_ne (fun q => hne q.symm)] at h
  have cellNe : ∀ x c, isCellKind (env.kindOf x) → env.cells.lookup x = some c → c ≠ env.locals := fun x c hk e q => by
    obtain ⟨c', o, e', _, ⟨ob, h1, h2⟩⟩ := fr.cells x hk
    rw [e] at e'; cases e'
    obtain ⟨ob', es, ep, h3, h4, _⟩ := hm
    rw [q, h3] at h1; cases h1; rw [h4] at h2; cases h2
  rcases hkind with hl | hc
  · refine wpAny_storeName_local hl hm (fun h' hn' hs' => ?_) (by simp [fr.kind])
    obtain ⟨o2, es2, ep2, e3, e4, _⟩ := id hn'
    have mv : Mv env.locals s { s with heap := h', toks := s.toks + 1 } := ⟨rfl, fun b o hb e => (hs'.2 b hb).trans e, ⟨o2, e3⟩, fun _ _ _ _ _ => ⟨o2, es2, ep2, e3, e4⟩⟩
    refine h env.locals _ List.mem_cons_self fw.loc mv ?_
    have cl : ∀ {b : Addr} {m' : Option Value}, b ≠ env.locals → s.heap.IsCell b m' → h'.IsCell b m' := fun hb h => by
      obtain ⟨o, ho, r⟩ := h
      exact ⟨o, mv.keep _ _ hb ho, r⟩
    refine ⟨fr.kind, fr.glob, fr.blt, fr.names, ⟨fr.loc.1, _, hn'⟩, fun y hy => ?_, fun y j v' h1 h2 h3 h4 => ?_, by rw [List.length_set]; exact fr.len⟩
    · obtain ⟨c, o, e1, hX, h5⟩ := fr.cells y hy
      exact ⟨c, o, e1, hX, cl (cellNe y c hy e1) h5⟩
    · by_cases hj : j = i
      · subst hj
        have hy := same y h2
        subst hy
        rw [List.getElem?_set_self hil] at h3; cases h3
        exact ⟨w, .inl ⟨hl, _, hn', by simp⟩, mv.vr fw.loc r⟩
      · obtain ⟨w', h5, h6⟩ := fr.vals y j v' h1 h2 (setv h3 hj) h4
        refine ⟨w', ?_, mv.vr fw.loc h6⟩
        rcases h5 with ⟨k, m', h7, h8⟩ | ⟨k, c, h7, h8⟩
        · refine .inl ⟨k, _, hn', ?_⟩
          have hyx : y ≠ x := fun q => by rw [q, hi] at h2; cases h2; exact hj rfl
          obtain ⟨ob, es, ep, q1, q2, q3, q4⟩ := h7
          obtain ⟨ob', es', ep', p1, p2, p3, p4⟩ := hm
          rw [q1] at p1; cases p1; rw [q2] at p2; cases p2
          show (if y = x then some w else m y) = some w'
          rw [if_neg hyx, ← p4 y, q4 y, h8]
        · exact .inr ⟨k, c, h7, cl (cellNe y c k h7) h8⟩
  · obtain ⟨c, o, e1, hX, hcell⟩ := fr.cells x (.inl hc)
    refine wpAny_storeName_cell fr.kind hc e1 hcell fun h' hc' hs' => ?_
    obtain ⟨o2, e3, e4⟩ := id hc'
    have mv : Mv c s { s with heap := h' } := ⟨rfl, fun b o hb e => (hs'.2 b hb).trans e, ⟨o2, e3⟩, fun ob es n q1 q2 => by
      obtain ⟨ob', q3, q4⟩ := hcell
      rw [q3] at q1; cases q1; rw [q4] at q2; cases q2⟩
    refine h c _ (List.mem_cons_of_mem _ (zEs e1)) hX mv ?_
    have hlne : env.locals ≠ c := fun q => cellNe x c (.inl hc) e1 q.symm
    have ns : ∀ {m' : Str → Option Value}, s.heap.Ns env.locals m' → h'.Ns env.locals m' := fun h => by
      obtain ⟨o, es, ep, ho, r⟩ := h
      exact ⟨o, es, ep, mv.keep _ _ hlne ho, r⟩
    have cl : ∀ {b : Addr} {m' : Option Value}, b ≠ c → s.heap.IsCell b m' → h'.IsCell b m' := fun hb h => by
      obtain ⟨o, ho, r⟩ := h
      exact ⟨o, mv.keep _ _ hb ho, r⟩
    refine ⟨fr.kind, fr.glob, fr.blt, fr.names, ⟨fr.loc.1, _, ns hm⟩, fun y hy => ?_, fun y j v' h1 h2 h3 h4 => ?_, by rw [List.length_set]; exact fr.len⟩
    · obtain ⟨c', o', e1', hX', h5⟩ := fr.cells y hy
      by_cases hcc : c' = c
      · subst hcc; exact ⟨c', _, e1', hX, hc'⟩
      · exact ⟨c', o', e1', hX', cl hcc h5⟩
    · by_cases hj : j = i
      · subst hj
        have hy := same y h2
        subst hy
        rw [List.getElem?_set_self hil] at h3; cases h3
        exact ⟨w, .inr ⟨.inl hc, c, e1, hc'⟩, mv.vr hX r⟩
      · obtain ⟨w', h5, h6⟩ := fr.vals y j v' h1 h2 (setv h3 hj) h4
        refine ⟨w', ?_, mv.vr hX h6⟩
        have hyx : y ≠ x := fun q => by rw [q, hi] at h2; cases h2; exact hj rfl
        rcases h5 with ⟨k, m', h7, h8⟩ | ⟨k, c', h7, h8⟩
        · exact .inl ⟨k, m', ns h7, h8⟩
        · exact .inr ⟨k, c', h7, cl (fun q => hyx (fw.inj y x c (q ▸ h7) e1)) h8⟩
theorem mv_qf {v : Fl} {fl : Flow} (hY : a ∈ ya env) (hX : a ∈ X) (L : Lk S X f σ s.heap) (m : Mv a s s') (h : FlR S X f s'.heap env Γ sc v fl) : QF S X env Γ sc f s (.ok v σ) fl s' :=
  ⟨v, σ, [], rfl, .nil s, m.kp hY, by rw [List.append_nil]; exact m.lk hX L, by rw [List.append_nil]; exact h⟩
theorem zFM {v : Fl} {fl : Flow} (L : Lk S X f σ s.heap) (h : FlR S X f s.heap env Γ sc v fl) : QF S X env Γ sc f s (.ok v σ) fl s :=
  ⟨v, σ, [], rfl, .nil s, .refl f _ s, by rw [List.append_nil]; exact L, by rw [List.append_nil]; exact h⟩
theorem swaps_no {e : Expr} {t : Option Expr} {n : Nat} (h : isComp e = false) (h2 : ∀ el gs sc p, e ≠ .SetComp el gs sc p) (h3 : ∀ k v gs sc p, e ≠ .DictComp k v gs sc p) : swapsWith e t n env = pure false := by
  cases e <;> first | rfl | exact ff_tt h.symm | exact absurd rfl (h2 _ _ _ _) | exact absurd rfl (h3 _ _ _ _ _)
theorem ok_ret {e : Expr} {c : CE} {pos : Pos} (h : EOk S F q d Γ sc e c) : SOk S F Fq q d Γ sc (.Return (some e) pos) (.ret c) := fun env ρ f X σ s A st fw hne => by
  rw [x_ret] at hne ⊢
  refine wpAny_Return_some ?_
  refine Sim.goS (Γ := Γ) (sc := sc) (h env ρ f X σ s A st) hne (fun _ _ x => x) (fun _ _ x => x) fun va a' σ₁ g₁ s₁ hne hg k L ra hQ hE => hQ _ _ (zFM L ⟨va, rfl, ra⟩)
theorem ok_pass {pos : Pos} : SOk S F Fq q d Γ sc (.Pass pos) .pass := fun env ρ f X σ s A st fw hne => by
  rw [x_pass]
  exact wpAny_Pass (zFM st.lk ⟨rfl, st.fr⟩)
theorem ok_exp {e : Expr} {c : CE} {pos : Pos} (h : EOk S F q d Γ sc e c) (hs : ∀ env n t, swapsWith e t n env = pure false) : SOk S F Fq q d Γ sc (.Expr e pos) (.exp c) := fun env ρ f X σ s A st fw hne => by
  rw [x_exp] at hne ⊢
  refine wpAny_Expr_any ?_ (by simp [interactive, st.fr.kind]) (hs _ _ _)
  refine Sim.goS (Γ := Γ) (sc := sc) (h env ρ f X σ s A st) hne (fun _ _ x => x) (fun _ _ x => x) fun va a' σ₁ g₁ s₁ hne hg k L ra hQ hE => hQ _ _ (zFM L ⟨rfl, (st.keep hg k L).fr⟩)
theorem asg_at {x : Str} {px pos : Pos} {e : Expr} {c : CE} (hx : slotOf Γ sc x = some i) (h : EOk S F q d Γ sc e c) (st : St S q d Γ sc env ρ f X σ s A) (fw : FW env X) (hs : swapsWith e (some (.Name x px)) pos.line env = pure false) (hne : exS F Fq q (.asg i c) ρ σ ≠ .stuck) :
    wpAny (model S.prog S.w) A (exec (.Assign [.Name x px] e pos) env) (QF S X env Γ sc f s (exS F Fq q (.asg i c) ρ σ)) (ES S X (ya env) f false s (exS F Fq q (.asg i c) ρ σ)) s := by
  rw [x_asg] at hne ⊢
  refine wpAny_Assign_Name ?_ hs
  refine Sim.goS (Γ := Γ) (sc := sc) (h env ρ f X σ s A st) hne (fun _ _ x => x) (fun _ _ x => x) fun va a' σ₁ g₁ s₁ hne hg k L ra hQ hE => ?_
  exact zAa (st.keep hg k L).fr fw hx ra fun b s' hY hX m fr => hQ _ _ (mv_qf hY hX L m ⟨rfl, fr⟩)
theorem ok_asg {x : Str} {px pos : Pos} {e : Expr} {c : CE} (hx : slotOf Γ sc x = some i) (h : EOk S F q d Γ sc e c) (hs : ∀ env n t, swapsWith e t n env = pure false) : SOk S F Fq q d Γ sc (.Assign [.Name x px] e pos) (.asg i c) := fun env ρ f X σ s A st fw hne =>
  asg_at hx h st fw (hs _ _ _) hne
theorem ok_if {t : Expr} {c : CE} {a b : List Stmt} {ca cb : List CS} {pos : Pos} (ht : TOk S F q d Γ sc t c) (ha : LSOk S F Fq q d Γ sc a ca) (hb : LSOk S F Fq q d Γ sc b cb) : SOk S F Fq q d Γ sc (.If t a b pos) (.ite c ca cb) := fun env ρ f X σ s A st fw hne => by
  have key : exS F Fq q (.ite c ca cb) ρ σ = ((evE F q c ρ σ).bind fun v σ => R.lift σ (truthy σ v)).bind fun t σ => if t then exL F Fq q ca ρ σ else exL F Fq q cb ρ σ := by rw [x_ite, R.bind_assoc]
  rw [key] at hne ⊢
  refine wpAny_If ?_
  refine Sim.goS (Γ := Γ) (sc := sc) (ht env ρ f X σ s A st) hne (fun _ _ x => x) (fun _ _ x => x) fun va a' σ₁ g₁ s₁ hne hg k L ra hQ hE => ?_
  have ra : va = a' := ra
  subst ra
  cases va with
  | true => exact wpAny_mono (ha env ρ _ X σ₁ s₁ A (st.keep hg k L) fw hne) hQ hE
  | false => exact wpAny_mono (hb env ρ _ X σ₁ s₁ A (st.keep hg k L) fw hne) hQ hE
theorem ok_nil : LSOk S F Fq q d Γ sc [] [] := fun env ρ f X σ s A st fw hne => by
  rw [x_lnil]
  exact wpAny_execs_nil (zFM st.lk ⟨rfl, st.fr⟩)
theorem ok_cons {a : Stmt} {b : List Stmt} {ca : CS} {cb : List CS} (ha : SOk S F Fq q d Γ sc a ca) (hb : LSOk S F Fq q d Γ sc b cb) : LSOk S F Fq q d Γ sc (a :: b) (ca :: cb) := fun env ρ f X σ s A st fw hne => by
  rw [x_lcons] at hne ⊢
  have hr : exS F Fq q ca ρ σ ≠ .stuck := fun e => hne (by rw [e]; rfl)
  refine wpAny_execs_cons (wpAny_mono (ha env ρ f X σ s A st fw hr) (fun fl s₁ h₁ => ?_) fun e s₁ h₁ => ?_)
  · obtain ⟨x, σ₁, g, e, hg, k, L, p⟩ := h₁
    rw [e, R.bind_ok] at hne ⊢
    cases x with
    | next ρ' =>
      obtain ⟨rfl, fr⟩ := p
      have st₁ : St S q d Γ sc env ρ' (f ++ g) X σ₁ s₁ A := ⟨st.cx.keep k hg, fr, L⟩
      exact wpAny_mono (hb env ρ' _ X σ₁ s₁ A st₁ fw hne) (fun c s'' q => QF.lifts f g s s₁ _ c s'' hg k q) fun c s'' q => ES.lifts f g s s₁ _ c s'' hg k q
    | ret v =>
      obtain ⟨w, rfl, r⟩ := p
      exact ⟨.ret v, σ₁, g, rfl, hg, k, L, w, rfl, r⟩
  · obtain ⟨c, σ', g, ea, e1, e2, hgE, kE, LE, xE⟩ := h₁
    exact ⟨c, σ', g, ea, e1, by rw [e2]; rfl, hgE, kE, LE, xE⟩
end
end Mine
end

/-! # Stmt2 -/
section
set_option autoImplicit false
namespace Mine
open PySem PyProof.Rows
section
variable {S : Stat} {C : Ctx} {T : Nat → Option Fn} {F Fq : Calls} {q : Bool} {d : Nat} {Γ : List Str} {sc : Scope}
variable {X X' Y Z : List Addr} {f g : List Loc} {σ : Sto} {s s' : Shared} {A : Around} {E : Value → Shared → Prop} {I a : Addr} {its : Items} {i : Nat} {env : Env} {ρ : List V}
set_option maxRecDepth 100000 in
theorem zGn {l : Addr} {items : Array Value} {n : Nat} {k : Int} {t : Tok} {v : Value} {Q : Unit → Shared → Prop} (hl : IsL s.heap l items n) (h0 : 0 ≤ k) (hfit : k < 2 ^ 63) (hn : k < items.size)
    (hQ : Q () { s with heap := s.heap.update l (Obj.mapSeq (·.setIfInBounds k.toNat v)) }) : wpAny (model S.prog S.w) A (setItem (.ref l) (.int k t) v) Q E s := by
  have il := IsL.isList hl
  unfold setItem
  try with_reducible refine wpAny_holding ?_
  first | refine wpAny_bind (wpAny_pure ?_) | skip
  refine wpAny_bind (wpAny_sequenceKey il.typeIs (by decide) ?_)
  refine wpAny_bind (wpAny_callSpecial?_slot (name := Str.ofString "__setitem__") il.typeIs slot_list_setitem
    (wpAny_call_entry slot_list_setitem il.typeIs entry_list_setitem ?_ (args_list_setitem _ _ _)))
  show wpAny _ _ (Builtin.List.listSubscript? (.int k t) >>= _) _ _ s
  refine wpAny_bind (wpAny_listSubscript_int (fitsIndex_of h0 hfit) ?_)
  clear hfit
  obtain ⟨j, rfl⟩ := Int.eq_ofNat_of_zero_le h0
  have hj : j < items.size := by omega
  have hx' : items[j]? = some items[j] := Array.getElem?_eq_getElem hj
  show wpAny _ _ ((seqItemAt l j >>= fun r => pure (r.map (j, ·))) >>= _) _ _ s
  refine wpAny_bind (wpAny_bind (wpAny_seqItemAt hl rfl (wpAny_pure ?_)))
  rw [hx']
  show wpAny _ _ (setSeqItemAt l j v >>= _) _ _ s
  refine wpAny_bind (wpAny_setSeqItemAt hl rfl ?_)
  first
    | exact wpAny_bind (wpAny_pure (wpAny_pure ⟨.none, rfl, wpAny_pure hQ⟩))
    | exact wpAny_pure ⟨.none, rfl, wpAny_pure hQ⟩
inductive SetInv (σ : Sto) (o i : V) : Prop
  | list (n : Nat) (k : Int) (xs : List V) (eo : o = .ref n) (ei : i = .int k) (hσ : σ[n]? = some (.list xs)) (hk : 0 ≤ k ∧ k.toNat < xs.length)
  | dict (n : Nat) (k : Int) (es : List (Int × V)) (eo : o = .ref n) (ei : i = .int k) (hσ : σ[n]? = some (.dict es)) (hl : es.length < LIM)
theorem setInv {σ : Sto} {o i v : V} {γ : Type} {rk : Unit → Sto → R γ} (h : (doSetItem σ o i v).bind rk ≠ .stuck) : SetInv σ o i := by
  cases o with
  | ref n =>
    cases i with
    | int k =>
      have h : (setObj σ n k v σ[n]?).bind rk ≠ .stuck := h
      cases hσ : σ[n]? with
      | none => rw [hσ] at h; exact absurd rfl h
      | some ob =>
        rw [hσ] at h
        cases ob with
        | list xs =>
          by_cases hk : 0 ≤ k ∧ k.toNat < xs.length
          · exact .list n k xs rfl rfl hσ hk
          · exact absurd (by show R.bind (if 0 ≤ k ∧ k.toNat < xs.length then _ else _) _ = _; rw [if_neg hk]; rfl) h
        | dict es =>
          by_cases hl : es.length < LIM
          · exact .dict n k es rfl rfl hσ hl
          · exact absurd (by show R.bind (if es.length < LIM then _ else _) _ = _; rw [if_neg hl]; rfl) h
        | inst _ => exact absurd rfl h
    | _ => exact absurd rfl h
  | _ => exact absurd rfl h
theorem fits_63 {j : Nat} (h : j < LIM) : (j : Int) < 2 ^ 63 := by have hL : LIM = 1048576 := rfl; omega
theorem ok_setItem {o ix e : Expr} {a b c : CE} {p' pos : Pos} (ho : EOk S F q d Γ sc o a) (hi : EOk S F q d Γ sc ix b) (h : EOk S F q d Γ sc e c) (hs : ∀ env n t, swapsWith e t n env = pure false) : SOk S F Fq q d Γ sc (.Assign [.Subscript o ix p'] e pos) (.setItem a b c) := fun env ρ f X σ s A st fw hne => by
  rw [zFU] at hne ⊢
  refine wpAny_Assign_Subscript ?_ (hs _ _ _)
  refine Sim.goS (Γ := Γ) (sc := sc) (h env ρ f X σ s A st) hne (fun _ _ x => x) (fun _ _ x => x) fun vv v' σ₁ g₁ s₁ hne hg k L rv hQ hE => ?_
  have st₁ := st.keep hg k L
  refine Sim.goS (Γ := Γ) (sc := sc) (ho env ρ _ X σ₁ s₁ A st₁) hne hQ hE fun vo o' σ₂ g₂ s₂ hne hg₂ k₂ L₂ ro hQ hE => ?_
  have st₂ := st₁.keep hg₂ k₂ L₂
  have rv₂ := VR.keepK k₂ hg₂ (fun _ h => nomatch h) rv
  refine Sim.goS (Γ := Γ) (sc := sc) (hi env ρ _ X σ₂ s₂ A st₂) hne hQ hE fun vi i' σ₃ g₃ s₃ hne hg₃ k₃ L₃ ri hQ hE => ?_
  have st₃ := st₂.keep hg₃ k₃ L₃
  have rv₃ := VR.keepK k₃ hg₃ (fun _ h => nomatch h) rv₂
  have ro₃ := VR.keepK k₃ hg₃ (fun _ h => nomatch h) ro
  cases setInv hne with
  | list n k' xs eo ei hσ hk =>
    subst eo
    subst ei
    have hd : doSetItem σ₃ (.ref n) (.int k') v' = .ok () (σ₃.set n (.list (xs.set k'.toNat v'))) := by show setObj σ₃ n k' v' σ₃[n]? = _; rw [hσ]; exact if_pos hk
    rw [hd] at hQ
    obtain ⟨ax, vs, kk, rfl, hf, il, rs, hlen⟩ := zBR L₃ ro₃ hσ
    obtain ⟨t, rfl⟩ := zAU ri
    obtain ⟨j, rfl⟩ := Int.eq_ofNat_of_zero_le hk.1
    have hj : j < vs.size := by rw [zAJ rs]; exact hk.2
    have hfit : (j : Int) < 2 ^ 63 := fits_63 (Nat.lt_of_lt_of_le (zAJ rs ▸ hj) hlen)
    obtain ⟨L4, k4⟩ := zFE (fn := fun xs => xs.setIfInBounds j vv) (xs := xs.set j v') L₃ hf il (by rw [Array.toList_setIfInBounds]; exact VRs_set rs rv₃) (by rw [List.length_set]; exact hlen)
    refine zGn il (Int.natCast_nonneg j) hfit (Int.ofNat_lt.mpr hj) (hQ _ _ ⟨.next ρ, _, [], rfl, .nil _, k4.mono (fun a h => nomatch h), by rw [List.append_nil]; exact L4, rfl, ?_⟩)
    rw [List.append_nil]
    have := st₃.fr.keep (g := []) L₃ k4 (.nil _)
    rwa [List.append_nil] at this
  | dict n k' es eo ei hσ hl =>
    subst eo
    subst ei
    have hd : doSetItem σ₃ (.ref n) (.int k') v' = .ok () (σ₃.set n (.dict (setDict es k' v'))) := by show setObj σ₃ n k' v' σ₃[n]? = _; rw [hσ]; exact if_pos hl
    rw [hd] at hQ
    refine zGm L₃ ro₃ ri hσ hl rv₃ fun h' tk L4 k4 => hQ _ _ ⟨.next ρ, _, [], rfl, .nil _, k4 _, by rw [List.append_nil]; exact L4, rfl, ?_⟩
    exact st₃.fr.keep (g := []) L₃ (k4 []) (.nil _)
theorem FR.drop {h h' : Heap} (fr : FR S X f h env Γ sc ρ) (fw : FW env X') (hX : ∀ a ∈ X', a ∈ X ∧ a ∉ Z) (hZ : ∀ a ∈ Z, a ∈ X) (k : ∀ b o, b ∉ Z → h.get? b = some o → h'.get? b = some o) : FR S X' f h' env Γ sc ρ := by
  have ns : ∀ {b : Addr} {m' : Str → Option Value}, b ∈ X' → h.Ns b m' → h'.Ns b m' := fun hb x => by
    obtain ⟨o, es, ep, ho, r⟩ := x
    exact ⟨o, es, ep, k _ _ (hX _ hb).2 ho, r⟩
  have cl : ∀ {b : Addr} {m' : Option Value}, b ∈ X' → h.IsCell b m' → h'.IsCell b m' := fun hb x => by
    obtain ⟨o, ho, r⟩ := x
    exact ⟨o, k _ _ (hX _ hb).2 ho, r⟩
  refine ⟨fr.kind, fr.glob, fr.blt, fr.names, ⟨fw.loc, let ⟨m, h⟩ := fr.loc.2; ⟨m, ns fw.loc h⟩⟩, fun x hx => ?_, fun x i v h1 h2 h3 h4 => ?_, fr.len⟩
  · obtain ⟨c, o, e, _, h⟩ := fr.cells x hx
    exact ⟨c, o, e, fw.cellX x c e, cl (fw.cellX x c e) h⟩
  · obtain ⟨w, h5, h6⟩ := fr.vals x i v h1 h2 h3 h4
    refine ⟨w, ?_, h6.drop (fun a ha => (hX a ha).1) hZ k⟩
    rcases h5 with ⟨kk, m', h7, h8⟩ | ⟨kk, c, h7, h8⟩
    · exact .inl ⟨kk, m', ns fw.loc h7, h8⟩
    · exact .inr ⟨kk, c, h7, cl (fw.cellX x c h7) h8⟩
theorem FW.more (fw : FW env X) : FW env (a :: X) := ⟨List.mem_cons_of_mem _ fw.loc, fun p hp => List.mem_cons_of_mem _ (fw.mem p hp), fw.inj⟩
theorem FlR.drop {h h' : Heap} {x : Fl} {fl : Flow} (p : FlR S X f h env Γ sc x fl) (fw : FW env X') (hX : ∀ a ∈ X', a ∈ X ∧ a ∉ Z) (hZ : ∀ a ∈ Z, a ∈ X) (k : ∀ b o, b ∉ Z → h.get? b = some o → h'.get? b = some o) : FlR S X' f h' env Γ sc x fl := by
  cases x with
  | next ρ => exact ⟨p.1, p.2.drop fw hX hZ k⟩
  | ret v => obtain ⟨w, e, r⟩ := p; exact ⟨w, e, r.drop (fun a ha => (hX a ha).1) hZ k⟩
theorem zGr {scope : Scope} {x y : Str} {px py pos spos : Pos} {elt iter : Expr} {ifs : List Expr} {ce c' : CE} {cond : Option CE} {k : SK} {cs : List CE} (hy : slotOf Γ sc y = some i) (ok : CompOk Γ sc scope x) (hsrc : SrcOk S F q d Γ sc iter k cs)
    (hcond : (ifs = [] ∧ cond = none) ∨ ∃ e c, ifs = [e] ∧ cond = some c ∧ TOk S F q d (Γ ++ [x]) scope e c) (helt : EOk S F q d (Γ ++ [x]) scope elt ce) (hc' : c' = .comp ce k cs cond ∨ c' = .trk (.comp ce k cs cond)) :
    SOk S F Fq q d Γ sc (.Assign [.Name y py] (.ListComp elt [⟨.Name x px, iter, ifs, 0⟩] scope pos) spos) (.asg i c') := fun env ρ f X σ s A st fw hne => by
  have hn := ok_comp (px := px) (pos := pos) ok hsrc hcond helt
  have he : EOk S F q d Γ sc (.ListComp elt [⟨.Name x px, iter, ifs, 0⟩] scope pos) c' := by
    rcases hc' with rfl | rfl
    · exact hn.eok
    · exact hn.trk
  by_cases hsw : (env.blockKind == .function && env.kindOf y == some .local && py.line == pos.line && !(scope.names.any fun (n, k) => n == y && (k == .local || k == .cell))) = true
  · have hs : swapsWith (.ListComp elt [⟨.Name x px, iter, ifs, 0⟩] scope pos) (some (.Name y py)) spos.line env = pure true := by
      show pure (env.blockKind == .function && env.kindOf y == some .local && py.line == pos.line && !(scope.names.any fun (n, k) => n == y && (k == .local || k == .cell))) = _
      rw [hsw]
    rw [exec_Assign_Name_used _ _ _ _ hs]
    rw [x_asg] at hne ⊢
    have hq : q = false := by
      cases q with
      | false => rfl
      | true => rcases hc' with rfl | rfl <;> exact absurd rfl hne
    have hval : ∃ tk : V → Sto → R V, evE F q c' ρ σ = (((evL F q cs ρ σ).bind fun vs σ => R.lift σ (itemsBy σ k vs)).bind fun its σ => (foldItems its (compStep F q ce cond ρ) [] σ).bind fun acc σ => .ok (.lst acc) σ).bind tk ∧
        ∀ {X : List Addr} {s : Shared} {r : R V} {v : Value} {s' : Shared}, (r.bind tk) ≠ .stuck → QN S X [] f s r v s' → QS S X [] f (PV S X) s (r.bind tk) v s' := by
      rcases hc' with rfl | rfl
      · exact ⟨fun v σ => .ok v σ, by rw [zCz hq]; generalize R.bind _ _ = r; cases r <;> rfl, fun {X s r v s'} _ h => by
          have : (r.bind fun v σ => R.ok v σ) = r := by cases r <;> rfl
          rw [this]; exact h.qs⟩
      · exact ⟨fun v σ => doTrk σ v, by rw [x_trk, zCz hq], fun {X s r v s'} hne h => h.trk hne⟩
    obtain ⟨tk, e0, htk⟩ := hval
    rw [e0] at hne ⊢
    obtain ⟨cl, hclos, hcl⟩ := st.fr.closure ok
    refine wpAny_bind (wpAny_standAt (wpAny_bind ?_))
    show wpAny _ A (do let _ ← comprehension (.ListComp elt [⟨.Name x px, iter, ifs, 0⟩] scope pos) scope env _ (newList []) false (eval iter env) (some (assign (.Name y py) env))) _ _ s
    refine wpAny_bind (wpAny_mono (wpAny_comprehension_free (Q := fun _ s' => QF S X env Γ sc f s _ .next s') (g := ⟨.Name x px, iter, ifs, 0⟩) (gs := []) rfl (hsrc.1 env) hclos ok.kind (fun p hp e => (ok.loc p hp e).2) ?_) (fun _ s' hq => wpAny_pure (wpAny_pure hq)) fun _ _ e => e)
    have hr : ((evL F q cs ρ σ).bind fun vs σ => R.lift σ (itemsBy σ k vs)) ≠ .stuck := fun e => hne (by rw [e]; rfl)
    refine wpAny_mono (hsrc.2 env ρ f X σ s A st hr) (fun xv s₁ h₁ => wpAny_mono h₁ (fun it s₂ h₂ => ?_) fun e s' h => ?_) fun e s' h => ?_
    · obtain ⟨its, σ₁, g, I, e1, rfl, hI, hIX, hg, kk, L, x0⟩ := h₂
      rw [e1, R.bind_ok] at hne ⊢
      have hne2 : foldItems its (compStep F q ce cond ρ) [] σ₁ ≠ .stuck := fun e => hne (by rw [e]; rfl)
      refine zEx st (st.cx.hand hq) ok hcl hcond helt hI hg kk L x0 hne2 (fun N D acc σ' g' m ys n s' hN hD hND e2 hg' k' L' hns il vs hlen => ?_)
      rw [e2, R.bind_ok] at hne ⊢
      have hNX : N ∉ X := (st.lk.new hN).2
      have hDX : D ∉ X := (st.lk.new hD).2
      have qn : QN S (N :: X) [] f s (.ok (.lst acc) σ') (.ref D) s' := by
        have hsw2 : ∀ a, a ∈ D :: N :: X → a ∈ N :: D :: X := fun a ha => by simp at ha ⊢; rcases ha with h | h | h <;> simp [h]
        have L2 : Lk S (D :: N :: X) (f ++ g') σ' s'.heap := L'.less hsw2
        have vs2 := VRs.less hsw2 vs
        refine ⟨.lst acc, σ', g', rfl, hg', k', L2.less fun a ha => List.mem_cons_of_mem _ ha, ?_, fun xs hxs => ?_⟩
        · rw [VR]
          exact ⟨D, ys, n, rfl, ⟨(L2.hid D List.mem_cons_self).2.1, fun h => (List.mem_cons.mp h).elim (fun q => hND q.symm) hDX⟩, il, vs2.less fun a ha => List.mem_cons_of_mem _ ha, hlen⟩
        · cases hxs
          exact ⟨D, ys, n, rfl, hD, (fun h => (List.mem_cons.mp h).elim (fun q => hND q.symm) hDX), L2, il, vs2, hlen⟩
      have hne3 : ((R.ok (.lst acc) σ').bind tk) ≠ .stuck := fun e => hne (by rw [e]; rfl)
      obtain ⟨v3, σ3, g3, e3, hg3, k3, L3, r3⟩ := htk hne3 qn
      rw [e3, R.bind_ok]
      have fr3 : FR S (N :: X) (f ++ g3) s'.heap env Γ sc ρ := st.fr.later st.lk k3 hg3 (fun a ha => (List.mem_cons.mp ha).elim (fun h => .inr (h ▸ hN)) .inl) fun a ha => List.mem_cons_of_mem _ ha
      refine wpAny_assign_Name (zAa fr3 fw.more hy r3 fun b s4 hY hX m4 fr4 => ?_)
      have hbN : b ≠ N := fun q => by
        subst q
        rcases List.mem_cons.mp hY with h | h
        · exact hNX (h ▸ fw.loc)
        · obtain ⟨p, hp, rfl⟩ := List.mem_map.mp h
          exact hNX (fw.mem p hp)
      obtain ⟨oN, esN, epN, eN, rN⟩ := hns
      refine ⟨m, ⟨oN, esN, epN, m4.keep N oN (Ne.symm hbN) eN, rN⟩, fun h' hs4 => ?_⟩
      have hkk : ∀ b o, b ∉ [N] → s4.heap.get? b = some o → h'.get? b = some o := fun b o hb e => (hs4.2 b (fun q => hb (q ▸ List.mem_singleton.mpr rfl))).trans e
      have hZX : ∀ a ∈ X, a ∈ N :: X ∧ a ∉ [N] := fun a ha => ⟨List.mem_cons_of_mem _ ha, fun h => hNX (List.mem_singleton.mp h ▸ ha)⟩
      have hZ : ∀ a ∈ [N], a ∈ N :: X := fun a ha => List.mem_singleton.mp ha ▸ List.mem_cons_self
      have ky : Kp f (ya env) s s4 := (k3.mono fun a h => nomatch h).trans hg3 (m4.kp hY)
      exact ⟨.next (ρ.set i v3), σ3, g3, rfl, hg3, ky.ends (Z := [N]) rfl hkk (fun b hb => List.mem_singleton.mp hb ▸ hN), (m4.lk hX L3).drop hZX hZ hkk, rfl, fr4.drop fw hZX hZ hkk⟩
    · obtain ⟨c, σ', g, ea, e1, e2, hg, kk, L, r⟩ := h
      exact ⟨c, σ', g, ea, e1, by rw [e2]; rfl, hg, (kk.mono fun a h => nomatch h), L, r⟩
    · obtain ⟨c, σ', g, ea, e1, e2, hg, kk, L, r⟩ := h
      exact ⟨c, σ', g, ea, e1, by rw [e2]; rfl, hg, (kk.mono fun a h => nomatch h), L, r⟩
  · refine asg_at hy he st fw ?_ hne
    show pure (env.blockKind == .function && env.kindOf y == some .local && py.line == pos.line && !(scope.names.any fun (n, k) => n == y && (k == .local || k == .cell))) = _
    rw [Bool.eq_false_iff.mpr hsw]
end
end Mine
end

/-! # Stmt3 -/
section
set_option autoImplicit false
namespace Mine
open PySem PyProof.Rows
section
variable {S : Stat} {C : Ctx} {T : Nat → Option Fn} {F Fq : Calls} {q : Bool} {d : Nat} {Γ : List Str} {sc : Scope}
variable {X X' Y Z : List Addr} {f g : List Loc} {σ : Sto} {s s' : Shared} {A : Around} {E : Value → Shared → Prop} {I a : Addr} {its : Items} {i : Nat} {env : Env} {ρ : List V}
theorem LSOk.calm {ss : List Stmt} {cs : List CS} {γ : Type} {rk : Fl → Sto → R γ} (h : LSOk S F Fq q d Γ sc ss cs) (st : St S q d Γ sc env ρ f X σ s A) (fw : FW env X) (hne : (exL F Fq q cs ρ σ).calm.bind rk ≠ .stuck) :
    ∃ x σ', (exL F Fq q cs ρ σ).calm.bind rk = rk x σ' ∧ rk x σ' ≠ .stuck ∧ ∀ E, wpAny (model S.prog S.w) A (execs ss env) (fun fl s' => ∃ g, Fresh g s ∧ Kp f (ya env) s s' ∧ Lk S X (f ++ g) σ' s'.heap ∧ FlR S X (f ++ g) s'.heap env Γ sc x fl) E s := by
  have hs := h env ρ f X σ s A st fw
  cases hr : exL F Fq q cs ρ σ with
  | ok x σ' =>
    rw [hr] at hne hs
    refine ⟨x, σ', rfl, hne, fun E => wpAny_mono (hs (by simp)) (fun a s' q => ?_) fun e s' q => ?_⟩
    · obtain ⟨x', σ'', g, e, hg, k, L, p⟩ := q
      cases e
      exact ⟨g, hg, k, L, p⟩
    · obtain ⟨_, _, _, _, _, e, _⟩ := q; cases e
  | exc _ _ => rw [hr] at hne; exact absurd rfl hne
  | stuck => rw [hr] at hne; exact absurd rfl hne
structure FTurn (S : Stat) (s : Shared) (X : List Addr) (f : List Loc) (I : Addr) (env : Env) (Γ : List Str) (sc : Scope) (its : Items) (i : Nat) (ρ : List V) (σ' : Sto) (g : List Loc) (s' : Shared) : Prop where
  fresh : Fresh g s
  kp : Kp f (ya env) s s'
  lk : Lk S (I :: X) (f ++ g) σ' s'.heap
  it : ItAt S (I :: X) (f ++ g) s'.heap I its i
  fr : FR S (I :: X) (f ++ g) s'.heap env Γ sc ρ
theorem not_ya (fw : FW env X) (hI : I ∉ X) : I ∉ ya env := fun h => by
  rcases List.mem_cons.mp h with h | h
  · exact hI (h ▸ fw.loc)
  · obtain ⟨p, hp, rfl⟩ := List.mem_map.mp h
    exact hI (fw.mem p hp)
theorem ItAt.keepY (k : Kp f Y s s') (hg : Fresh g s) (hI : I ∈ X) (hXf : ∀ a ∈ X, a ∉ addrs f) (hY : ∀ a ∈ Y, a ∈ X) (hIY : I ∉ Y) (x : ItAt S X f s.heap I its i) : ItAt S X (f ++ g) s'.heap I its i :=
  ItAt.keep (f := f) (f' := f ++ g) (X := X) (X' := X) (h := s.heap) (fun _ _ e => List.getElem?_append_left (List.getElem?_eq_some_iff.mp e).1 ▸ e)
    (fun a o ho h1 h2 => ⟨⟨fun h => (zAE.mp h).elim h1 (zAN hg ho), h2⟩, k.kept a o ho h1 fun h => h2 (hY a h)⟩) (fun o ho => k.kept I o ho (hXf I hI) hIY) x
theorem ya_mem (fw : FW env X) : ∀ a ∈ ya env, a ∈ X := fun a h => by
  rcases List.mem_cons.mp h with h | h
  · exact h ▸ fw.loc
  · obtain ⟨p, hp, rfl⟩ := List.mem_map.mp h
    exact fw.mem p hp
theorem ok_for {x : Str} {px pos : Pos} {iter : Expr} {body : List Stmt} {cb : List CS} {k : SK} {cs : List CE} (hx : slotOf Γ sc x = some i) (hsrc : SrcOk S F q d Γ sc iter k cs) (hb : LSOk S F Fq q d Γ sc body cb) :
    SOk S F Fq q d Γ sc (.For (.Name x px) iter body [] pos) (.for i k cs cb) := fun env ρ f X σ s A st fw hne => by
  have hq : q = false := by
    cases q with
    | false => rfl
    | true => rw [x_for] at hne; exact absurd rfl hne
  have hh := st.cx.hand hq
  have key : exS F Fq q (.for i k cs cb) ρ σ = ((evL F q cs ρ σ).bind fun vs σ => R.lift σ (itemsBy σ k vs)).bind fun it σ => forItems it (fun x ρ σ => exL F Fq q cb (ρ.set i x) σ) ρ σ := by rw [x_for, hq, if_neg (by simp), R.bind_assoc]
  rw [key] at hne ⊢
  have hr : ((evL F q cs ρ σ).bind fun vs σ => R.lift σ (itemsBy σ k vs)) ≠ .stuck := fun e => hne (by rw [e]; rfl)
  refine wpAny_For ?_ (hsrc.1 env)
  refine wpAny_mono (hsrc.2 env ρ f X σ s A st hr) (fun xv s₁ h₁ => wpAny_mono h₁ (fun it s₂ h₂ => ?_) fun e s' h => ?_) fun e s' h => ?_
  rotate_left
  · obtain ⟨c, σ', g, ea, e1, e2, hg, kk, L, r⟩ := h
    exact ⟨c, σ', g, ea, e1, by rw [e2]; rfl, hg, (kk.mono fun a h => nomatch h), L, r⟩
  · obtain ⟨c, σ', g, ea, e1, e2, hg, kk, L, r⟩ := h
    exact ⟨c, σ', g, ea, e1, by rw [e2]; rfl, hg, (kk.mono fun a h => nomatch h), L, r⟩
  obtain ⟨its, σ₁, g, I, e1, rfl, hI, hIX, hg, kk, L, x0⟩ := h₂
  rw [e1, R.bind_ok] at hne ⊢
  have hIya := not_ya fw hIX
  have hIin : I ∈ I :: X := List.mem_cons_self
  have fw' : FW env (I :: X) := fw.more
  have hZX : ∀ a ∈ X, a ∈ I :: X ∧ a ∉ [I] := fun a ha => ⟨List.mem_cons_of_mem _ ha, fun h => hIX (List.mem_singleton.mp h ▸ ha)⟩
  have hZ : ∀ a ∈ [I], a ∈ I :: X := fun a ha => List.mem_singleton.mp ha ▸ List.mem_cons_self
  have fr0 : FR S (I :: X) (f ++ g) s₂.heap env Γ sc ρ := st.fr.later st.lk kk hg (fun a ha => (List.mem_cons.mp ha).elim (fun h => .inr (h ▸ hI)) .inl) fun a ha => List.mem_cons_of_mem _ ha
  have t0 : FTurn S s X f I env Γ sc its 0 ρ σ₁ g s₂ := ⟨hg, (kk.mono fun a h => nomatch h), L, x0, fr0⟩
  unfold forItems at hne ⊢
  generalize htot : forIt its (fun x ρ σ => exL F Fq q cb (ρ.set i x) σ) (itFuel σ₁ its) 0 ρ σ₁ = total at hne ⊢
  refine codeAny_forLoop (fun n s' => ∃ j ρ' σ' g, forIt its (fun x ρ σ => exL F Fq q cb (ρ.set i x) σ) n j ρ' σ' = total ∧ FTurn S s X f I env Γ sc its j ρ' σ' g s') ?_ (itFuel σ₁ its) ⟨0, ρ, σ₁, g, htot, t0⟩
  rintro n s' ⟨j, ρ', σ', g', hf, t⟩
  cases n with
  | zero => rw [forIt_zero] at hf; exact absurd hf.symm hne
  | succ n =>
  rw [zCv] at hf
  cases hnx : nextIt σ' its j with
  | none => rw [hnx] at hf; exact absurd hf.symm hne
  | some o =>
  rw [hnx] at hf
  cases o with
  | none =>
    have hf : R.ok (Fl.next ρ') σ' = total := hf
    refine wpAny_mono (zHi hh t.lk t.it hnx) (fun r s₃ h₃ => ?_) fun _ _ x => x
    obtain ⟨rfl, hr3, hk3⟩ := h₃
    have hkk : ∀ b o, b ∉ [I] → s'.heap.get? b = some o → s₃.heap.get? b = some o := fun b o hb e => hk3 b o (fun q => hb (q ▸ List.mem_singleton.mpr rfl)) e
    refine wpAny_execs_nil ?_
    exact ⟨.next ρ', σ', g', hf.symm, t.fresh, t.kp.ends (Z := [I]) hr3 hkk (fun b hb => List.mem_singleton.mp hb ▸ hI), t.lk.drop hZX hZ hkk, rfl, t.fr.drop fw hZX hZ hkk⟩
  | some x' =>
  have hf : ((exL F Fq q cb (ρ'.set i x') σ').bind fun fl σ => match fl with | .next ρ => forIt its (fun x ρ σ => exL F Fq q cb (ρ.set i x) σ) n (j + 1) ρ σ | .ret v => .ok (.ret v) σ) = total := hf
  refine wpAny_mono (zGO hIin t.lk t.it hnx) (fun r s₃ h₃ => ?_) fun _ _ x => x
  obtain ⟨v, rfl, m1, it1, rv⟩ := h₃
  have hlI : env.locals ≠ I := fun h => hIX (h ▸ fw.loc)
  have hcI : ∀ x c, env.cells.lookup x = some c → c ≠ I := fun x c e h => hIX (h ▸ fw.cellX x c e)
  have fr1 := t.fr.mv m1 hIin hlI hcI
  refine wpAny_assign_Name (zAa fr1 fw' hx rv fun b s4 hY hX m4 fr4 => ?_)
  have hbI : I ≠ b := fun h => hIya (h ▸ hY)
  have lk4 := m4.lk hX (m1.lk hIin t.lk)
  have it4 := it1.mv m4 hX hbI
  have kp3 : Kp f (ya env) s s₃ := t.kp.mv m1 hI
  have kp4 : Kp f (ya env) s s4 := kp3.trans t.fresh (m4.kp hY)
  have st4 : St S q d Γ sc env (ρ'.set i x') (f ++ g') (I :: X) σ' s4 A := ⟨st.cx.keep kp4 t.fresh, fr4, lk4⟩
  have hr5 : exL F Fq q cb (ρ'.set i x') σ' ≠ .stuck := fun e => hne (by rw [← hf, e]; rfl)
  refine wpAny_mono (hb env _ _ _ σ' s4 A st4 fw' hr5) (fun fl s6 h6 => ?_) fun e s6 h6 => ?_
  rotate_left
  · obtain ⟨c, σ5, g6, ea, rfl, e5, hg6, k6, lk6, x6⟩ := h6
    rw [e5] at hf
    have hf : R.exc c σ5 = total := hf
    subst hf
    have kp6 : Kp f (ya env) s s6 := kp4.trans t.fresh k6
    have fg6 : Fresh (g' ++ g6) s := t.fresh.trans kp4.live hg6
    obtain ⟨en, l, h1, h2, h3⟩ := (st4.cx.keep k6 hg6).frs
    obtain ⟨-, L1, -, -, -, h4, -⟩ := h3 en List.mem_cons_self
    rw [List.append_assoc] at h3 x6 lk6
    have xs : ExcR S X (f ++ (g' ++ g6)) σ5 s6.heap s.heap ea c := (x6.back fun a h => zAS kp4.live h).less fun a ha => List.mem_cons_of_mem _ ha
    have hX : ∀ a ∈ X, ∃ o, s.heap.get? a = some o := fun a ha => (st.lk.hid a ha).2.2
    show wpAny _ A (noteFrame (.ref ea) env) _ _ s6
    rw [zBU (env' := en) h2]
    refine note_at h1 h3 h4 xs hX (fun _ h => zAS kp6.live h) fun h₁ hs₁ oe vs T hf1 N1 x1 p1 p2 p3 => ?_
    show wpAny _ A (do if (← field (.ref ea) 1) == .none then unsupported "frame.own-activation:exception-without-traceback"
                       setFlight (.ref ea) env.frame) _ _ _
    refine wpAny_bind (wpAny_field p1 p2 p3 ?_)
    rw [if_neg (show ¬ ((Value.ref T == Value.none) = true) from by simp)]
    exact zBA (s := { s6 with heap := h₁ }) x1 hX fun h₂ hs₂ hf2 N2 L2 x2 => ⟨c, σ5, g' ++ g6, ea, rfl, rfl, fg6, N2.kp (N1.kp kp6 hf1) hf2, L2, x2⟩
  obtain ⟨fl5, σ5, g6, e5, hg6, k6, lk6, p6⟩ := h6
  rw [e5] at hf
  have hXf : ∀ a ∈ I :: X, a ∉ addrs (f ++ g') := fun a ha => (lk4.hid a ha).2.1
  have it6 := it4.keepY k6 hg6 hIin hXf (ya_mem fw') hIya
  have kp6 : Kp f (ya env) s s6 := kp4.trans t.fresh k6
  have fg6 : Fresh (g' ++ g6) s := t.fresh.trans kp4.live hg6
  rw [List.append_assoc] at lk6 it6 p6
  cases fl5 with
  | next ρ6 =>
    obtain ⟨rfl, fr6⟩ := p6
    exact ⟨n, Nat.lt_succ_self n, j + 1, ρ6, σ5, g' ++ g6, hf, fg6, kp6, lk6, it6, fr6⟩
  | ret v6 =>
    obtain ⟨w6, rfl, r6⟩ := p6
    have hf : R.ok (Fl.ret v6) σ5 = total := hf
    exact ⟨.ret v6, σ5, g' ++ g6, hf.symm, fg6, kp6, lk6.drop (Z := []) (fun a ha => ⟨List.mem_cons_of_mem _ ha, fun h => nomatch h⟩) (fun a h => nomatch h) (fun _ _ _ e => e), w6, rfl, r6.less fun a ha => List.mem_cons_of_mem _ ha⟩
theorem ok_while {t : Expr} {c : CE} {body : List Stmt} {cb : List CS} {pos : Pos} (ht : TOk S F q d Γ sc t c) (hb : LSOk S F Fq q d Γ sc body cb) : SOk S F Fq q d Γ sc (.While t body [] pos) (.while c cb) := fun env ρ f X σ s A st fw hne => by
  have hq : q = false := by
    cases q with
    | false => rfl
    | true => rw [x_while] at hne; exact absurd rfl hne
  have key : exS F Fq q (.while c cb) ρ σ = whileL (fun ρ σ => ((evE F q c ρ σ).bind fun v σ => R.lift σ (truthy σ v)).calm) (fun ρ σ => (exL F Fq q cb ρ σ).calm) wFuel ρ σ := by rw [x_while, hq, if_neg (by simp)]
  rw [key] at hne ⊢
  refine wpAny_While ?_
  generalize htot : whileL (fun ρ σ => ((evE F q c ρ σ).bind fun v σ => R.lift σ (truthy σ v)).calm) (fun ρ σ => (exL F Fq q cb ρ σ).calm) wFuel ρ σ = total at hne ⊢
  refine codeAny_whileLoop (fun n s' => ∃ ρ' σ' g, whileL (fun ρ σ => ((evE F q c ρ σ).bind fun v σ => R.lift σ (truthy σ v)).calm) (fun ρ σ => (exL F Fq q cb ρ σ).calm) n ρ' σ' = total ∧ Fresh g s ∧ Kp f (ya env) s s' ∧ Lk S X (f ++ g) σ' s'.heap ∧ FR S X (f ++ g) s'.heap env Γ sc ρ') ?_ wFuel
    ⟨ρ, σ, [], htot, .nil s, .refl f _ s, by rw [List.append_nil]; exact st.lk, by rw [List.append_nil]; exact st.fr⟩
  rintro n s' ⟨ρ', σ', g', hf, hg, kp, lk, fr⟩
  cases n with
  | zero => rw [zGh] at hf; exact absurd hf.symm hne
  | succ n =>
  rw [zGi] at hf
  have st1 : St S q d Γ sc env ρ' (f ++ g') X σ' s' A := ⟨st.cx.keep kp hg, fr, lk⟩
  obtain ⟨b, σ₂, _, e2, hne2, w2⟩ := Sim.calm (ht env ρ' _ X σ' s' A st1) (by rw [hf]; exact hne)
  rw [e2] at hf
  refine wpAny_mono (w2 _) (fun b' s₃ h₃ => ?_) fun _ _ x => x
  obtain ⟨g3, hg3, k3, lk3, hbb⟩ := h₃
  have hbb : b' = b := hbb
  subst hbb
  have st3 := st1.keep hg3 k3 lk3
  have kp3 : Kp f (ya env) s s₃ := kp.trans hg (k3.mono fun a h => nomatch h)
  have fg3 : Fresh (g' ++ g3) s := hg.trans kp.live hg3
  cases b' with
  | false =>
    have hf : R.ok (Fl.next ρ') σ₂ = total := hf
    refine wpAny_execs_nil ⟨.next ρ', σ₂, g' ++ g3, hf.symm, fg3, kp3, by rw [← List.append_assoc]; exact lk3, rfl, by rw [← List.append_assoc]; exact st3.fr⟩
  | true =>
    have hf : ((exL F Fq q cb ρ' σ₂).calm.bind fun fl σ => match fl with | .next ρ => whileL (fun ρ σ => ((evE F q c ρ σ).bind fun v σ => R.lift σ (truthy σ v)).calm) (fun ρ σ => (exL F Fq q cb ρ σ).calm) n ρ σ | .ret v => .ok (.ret v) σ) = total := hf
    obtain ⟨fl5, σ5, e5, hne5, w5⟩ := hb.calm st3 fw (by rw [hf]; exact hne)
    rw [e5] at hf
    show wpAny _ _ _ _ _ _
    refine wpAny_mono (w5 _) (fun fl s6 h6 => ?_) fun _ _ x => x
    obtain ⟨g6, hg6, k6, lk6, p6⟩ := h6
    have fg6 : Fresh ((g' ++ g3) ++ g6) s := fg3.trans kp3.live hg6
    have kp6 : Kp f (ya env) s s6 := kp3.trans fg3 (by rw [← List.append_assoc]; exact k6)
    have ea : f ++ g' ++ g3 ++ g6 = f ++ (g' ++ g3 ++ g6) := by simp [List.append_assoc]
    rw [ea] at lk6 p6
    cases fl5 with
    | next ρ6 =>
      obtain ⟨rfl, fr6⟩ := p6
      exact ⟨n, Nat.lt_succ_self n, ρ6, σ5, _, hf, fg6, kp6, lk6, fr6⟩
    | ret v6 =>
      obtain ⟨w6, rfl, r6⟩ := p6
      have hf : R.ok (Fl.ret v6) σ5 = total := hf
      exact ⟨.ret v6, σ5, _, hf.symm, fg6, kp6, lk6, w6, rfl, r6⟩
end
end Mine
end

/-! # Stmt4 -/
section
set_option autoImplicit false
namespace Mine
open PySem PyProof.Rows
section
variable {S : Stat} {C : Ctx} {T : Nat → Option Fn} {F Fq : Calls} {q : Bool} {d : Nat} {Γ : List Str} {sc : Scope}
variable {X X' Y Z : List Addr} {f g : List Loc} {σ : Sto} {s s' : Shared} {A : Around} {E : Value → Shared → Prop} {I a : Addr} {its : Items} {i : Nat} {env : Env} {ρ : List V}
theorem Kp.go {s₁ s₂ : Shared} (k : Kp f Y s s₁) (k' : Kp f Y s₁ s₂) : Kp f Y s s₂ := k.trans (g := []) (.nil s) (by rw [List.append_nil]; exact k')
theorem ok_unpack3 {x y z : Str} {p1 p2 p3 tp pos cp : Pos} {n : Nat} {fn : Expr} {args : List Expr} {kws : List Keyword} {c : CE} {j k : Nat} (hi : slotOf Γ sc x = some i) (hj : slotOf Γ sc y = some j) (hk : slotOf Γ sc z = some k)
    (h : EOk S F q d Γ sc (.Call fn args kws cp) c) : SOk S F Fq q d Γ sc (.Assign [.Tuple [.Name x p1, .Name y p2, .Name z p3] n tp] (.Call fn args kws cp) pos) (.unpack3 i j k c) := fun env ρ f X σ s A st fw hne => by
  rw [x_unpack3] at hne ⊢
  by_cases hq : q = true
  · rw [if_pos hq] at hne; exact absurd rfl hne
  rw [if_neg hq] at hne ⊢
  have hh : A.handled = none := st.cx.hand (by simpa using hq)
  refine Assign_Tuple ?_ rfl rfl
  refine Sim.goS (Γ := Γ) (sc := sc) (h env ρ f X σ s A st) hne (fun _ _ x => x) (fun _ _ x => x) fun va a' σ₁ g₁ s₁ hne hg kp L ra hQ hE => ?_
  split at hne
  · rename_i v1 v2 v3
    obtain ⟨ad, vs, m, rfl, hx, il, rs, _⟩ := zBg ra
    have hz := zAJ rs
    have hvs : ∃ w1 w2 w3, vs.toList = [w1, w2, w3] ∧ VR S X (f ++ g₁) s₁.heap v1 w1 ∧ VR S X (f ++ g₁) s₁.heap v2 w2 ∧ VR S X (f ++ g₁) s₁.heap v3 w3 := by
      match hl : vs.toList, rs with
      | [w1, w2, w3], rs => rw [VRs, VRs, VRs] at rs; exact ⟨w1, w2, w3, rfl, rs.1, rs.2.1, rs.2.2.1⟩
      | [], rs => rw [VRs] at rs; exact rs.elim
      | [_], rs => rw [VRs, VRs] at rs; exact rs.2.elim
      | [_, _], rs => rw [VRs, VRs, VRs] at rs; exact rs.2.2.elim
      | _ :: _ :: _ :: _ :: _, rs => rw [VRs, VRs, VRs, VRs] at rs; exact rs.2.2.2.elim
    obtain ⟨w1, w2, w3, hl, r1, r2, r3⟩ := hvs
    refine wpAny_assign_Tuple hh ⟨_, il, rfl, m, rfl⟩ (by show 3 = vs.size; rw [← Array.length_toList, hl]; rfl) rfl fun h' he => ?_
    rw [hl]
    have ex : Ext s₁ { s₁ with heap := h' } := ⟨rfl, fun b o e => he b o (fun q => by have := Heap.lt_size e; rw [q] at this; exact Nat.lt_irrefl _ this) e⟩
    have k0 : Kp (f ++ g₁) (ya env) s₁ { s₁ with heap := h' } := ex.kp _ _
    have fr0 := (st.keep hg kp L).fr.keep L (ex.kp _ []) (.nil s₁)
    rw [List.append_nil] at fr0
    have L0 := ex.lk L
    show wpAny _ _ (do holding [w2, w3] (assign (.Name x p1) env w1); assignInOrder [assign (.Name y p2) env, assign (.Name z p3) env] [w2, w3]) _ _ _
    refine wpAny_bind (wpAny_holding (wpAny_assign_Name (zAa fr0 fw hi (ex.vr r1) fun b1 t1 hY1 hX1 m1 fr1 => ?_)))
    show wpAny _ _ (do holding [w3] (assign (.Name y p2) env w2); assignInOrder [assign (.Name z p3) env] [w3]) _ _ _
    refine wpAny_bind (wpAny_holding (wpAny_assign_Name (zAa fr1 fw hj (m1.vr hX1 (ex.vr r2)) fun b2 t2 hY2 hX2 m2 fr2 => ?_)))
    show wpAny _ _ (do holding [] (assign (.Name z p3) env w3); assignInOrder [] []) _ _ _
    refine wpAny_bind (wpAny_holding (wpAny_assign_Name (zAa fr2 fw hk (m2.vr hX2 (m1.vr hX1 (ex.vr r3))) fun b3 t3 hY3 hX3 m3 fr3 => ?_)))
    refine wpAny_pure (hQ _ _ ⟨_, σ₁, [], rfl, .nil s₁, ((k0.go (m1.kp hY1)).go (m2.kp hY2)).go (m3.kp hY3), ?_, rfl, ?_⟩)
    · rw [List.append_nil]; exact m3.lk hX3 (m2.lk hX2 (m1.lk hX1 L0))
    · rw [List.append_nil]; exact fr3
  · exact absurd rfl hne
end
end Mine
end

/-! # StmtX -/
section
set_option autoImplicit false
namespace Mine
open PySem PyProof.Rows
section
variable {S : Stat} {C : Ctx} {T : Nat → Option Fn} {F Fq : Calls} {q : Bool} {d : Nat} {Γ : List Str} {sc : Scope}
variable {X X' Y Z : List Addr} {f g : List Loc} {σ : Sto} {s s' s₀ : Shared} {A : Around} {E : Value → Shared → Prop} {I a ea : Addr} {its : Items} {i : Nat} {env : Env} {ρ : List V}
theorem zHg {st : Stmt} : SOk S F Fq q d Γ sc st .stuck := fun env ρ f X σ s A _ _ hne => absurd rfl hne
theorem zFN (fs : Facts S C T) {x : Str} {p : Pos} {c : Cls} {Q : Value → Shared → Prop} {σ' : Sto} (fr : FR S X f s.heap env Γ sc ρ) (L : Lk S X f σ' s.heap) (hx : excOf C sc x = some c) (h : C.excs.lookup x = some c → x ≠ ("ValueError" : Str) → Q (S.cl c) s) :
    wpAny (model S.prog S.w) A (eval (.Name x p) env) Q E s := by
  unfold excOf at hx
  split at hx
  · rename_i hc
    simp only [Bool.and_eq_true, bne_iff_ne, ne_eq] at hc
    obtain ⟨⟨hg, hd⟩, hv⟩ := hc
    obtain ⟨mg, mb, h1, h2, _, _, _, _, h3⟩ := fs.g
    refine wpAny_Name ?_ (by simpa using hd)
    rcases h3 x c hx with h4 | ⟨h4, h5⟩
    · exact zBF fr.kind (fr.isGlob hg) (by rw [fr.glob]; exact L.ns h1) h4 (h hx hv)
    · exact zDD fr.kind (fr.isGlob hg) (by rw [fr.glob]; exact L.ns h1) h4 (by rw [fr.blt]; exact L.ns h2) h5 (h hx hv)
  · first | exact zAA hx | exact ff_tt hx | cases hx
theorem ok_raise (fs : Facts S C T) {x m : Str} {np kp cp pos : Pos} {kk : Nat} {c : Cls} (hm : (m.length ≤ 1000 && PyData.strOk m) = true) (hx : excOf C sc x = some c) :
    SOk S F Fq q d Γ sc (.Raise (some (.Call (.Name x np) [.Constant (.str m) kk kp] [] cp)) none pos) (.raise c) := fun env ρ f X σ s A st fw hne => by
  have e0 : exS F Fq q (.raise c) ρ σ = if q = true then .stuck else .exc c σ := rfl
  rw [e0] at hne ⊢
  by_cases hq : q = true
  · rw [if_pos hq] at hne; exact absurd rfl hne
  rw [if_neg hq]
  have hh : A.handled = none := st.cx.hand (by simpa using hq)
  have hcl : ∃ y, C.excs.lookup y = some c ∧ y ≠ ("ValueError" : Str) := by
    unfold excOf at hx
    split at hx
    · rename_i hc
      simp only [Bool.and_eq_true, bne_iff_ne, ne_eq] at hc
      exact ⟨x, hx, hc.2⟩
    · first | exact zAA hx | exact ff_tt hx | cases hx
  obtain ⟨y, hy, hv⟩ := hcl
  obtain ⟨Ca, bm, N, nm, qn, bs, hdct, sn, sub, ab, col, dd, k0, k1, k2, k3, k5, mN, hcl, hC, hN, hni, OT, -, _⟩ := (fs.exc y c hy).2 hv
  refine wpAny_Raise_call_subT (C := Ca) (nm := nm) (q := qn) (N := N) (bs := bs) (bm := bm) (hdct := hdct) (sn := sn) (sub := sub) (ab := ab) (col := col) (dd := dd) (k0 := k0) (k1 := k1) (k2 := k2) (k3 := k3) (k5 := k5)
    PySem.F.excBase_ValueError (mN := mN) (OT.hasType rfl) hh rfl hni (zFN fs st.fr st.lk hx fun _ _ => ⟨hcl, ?_⟩)
  refine zBZ rfl (spliced1 rfl ?_)
  refine wpAny_mono ((ok_str (F := F) (q := q) (d := d) (Γ := Γ) (sc := sc) hm) env ρ f X σ s A st (by rw [x_lit]; simp)) (fun v s₁ h₁ => ?_) fun e s' h => ?_
  · obtain ⟨b, σ', g, e, hg, k, L, r⟩ := h₁
    rw [x_lit] at e; cases e
    refine ⟨rfl, by show 1 ≤ sizeLine; decide, L.base _ _ hC, L.ns hN, OT.keeps L.base, fun h' e hm => ?_⟩
    obtain ⟨t, he, -, -⟩ := hm.there
    have ex : Ext s₁ { s₁ with heap := h' } := ⟨rfl, hm.keeps⟩
    have ky : Kp f (ya env) s s₁ := k.mono fun a h => nomatch h
    refine ⟨c, σ, g, e, rfl, rfl, hg, ky.trans hg (ex.kp _ _), ex.lk L, zAS k.live hm.new, (fs.exc y c hy).2 hv, [e], _, _, L.hideNew ex hm.new he, he, hcl.symm, rfl, .inl ⟨rfl, rfl⟩⟩
  · obtain ⟨_, _, _, _, _, e, _⟩ := h
    rw [x_lit] at e; cases e
noncomputable def tkEnv (k : TK) (v : V) (ρ : List V) : List V :=
  match k with
  | .asg i => ρ.set i v
  | _ => ρ
inductive QT (S : Stat) (X : List Addr) (env : Env) (Γ : List Str) (sc : Scope) (f : List Loc) (s : Shared) (ρ : List V) (k : TK) (r : R V) (fl : Flow) (s' : Shared) : Prop where
  | mk (v : V) (σ' : Sto) (g : List Loc) (e : r = .ok v σ') (hg : Fresh g s) (kp : Kp f (ya env) s s') (L : Lk S X (f ++ g) σ' s'.heap) (p : FlR S X (f ++ g) s'.heap env Γ sc (tkFl k v ρ) fl) (fr : FR S X (f ++ g) s'.heap env Γ sc (tkEnv k v ρ))
noncomputable def TKOk (S : Stat) (F : Calls) (q : Bool) (d : Nat) (Γ : List Str) (sc : Scope) (ss : List Stmt) (k : TK) (c : CE) : Prop :=
  ∀ (env : Env) (ρ : List V) (f : List Loc) (X : List Addr) (σ : Sto) (s : Shared) (A : Around), St S q d Γ sc env ρ f X σ s A → FW env X → evE F q c ρ σ ≠ .stuck →
    wpAny (model S.prog S.w) A (execs ss env) (QT S X env Γ sc f s ρ k (evE F q c ρ σ)) (ES S X [] f false s (evE F q c ρ σ)) s
theorem tk_ret {e : Expr} {c : CE} {pos : Pos} (h : EOk S F q d Γ sc e c) : TKOk S F q d Γ sc [.Return (some e) pos] .ret c := fun env ρ f X σ s A st fw hne => by
  refine wpAny_execs_cons (wpAny_Return_some (wpAny_mono (h env ρ f X σ s A st hne) (fun v s₁ h₁ => ?_) fun _ _ x => x))
  obtain ⟨b, σ', g, e, hg, k, L, r⟩ := h₁
  exact ⟨b, σ', g, e, hg, (k.mono fun a h => nomatch h), L, ⟨v, rfl, r⟩, (st.keep hg k L).fr⟩
theorem tk_exp {e : Expr} {c : CE} {pos : Pos} (h : EOk S F q d Γ sc e c) (hs : ∀ env n t, swapsWith e t n env = pure false) : TKOk S F q d Γ sc [.Expr e pos] .exp c := fun env ρ f X σ s A st fw hne => by
  refine wpAny_execs_cons (wpAny_Expr_any (wpAny_mono (h env ρ f X σ s A st hne) (fun v s₁ h₁ => ?_) fun _ _ x => x) (by simp [interactive, st.fr.kind]) (hs _ _ _))
  obtain ⟨b, σ', g, e, hg, k, L, r⟩ := h₁
  exact wpAny_execs_nil ⟨b, σ', g, e, hg, (k.mono fun a h => nomatch h), L, ⟨rfl, (st.keep hg k L).fr⟩, (st.keep hg k L).fr⟩
theorem tk_asg {x : Str} {px pos : Pos} {e : Expr} {c : CE} (hx : slotOf Γ sc x = some i) (h : EOk S F q d Γ sc e c) (hs : ∀ env n t, swapsWith e t n env = pure false) : TKOk S F q d Γ sc [.Assign [.Name x px] e pos] (.asg i) c := fun env ρ f X σ s A st fw hne => by
  refine wpAny_execs_cons (wpAny_Assign_Name (wpAny_mono (h env ρ f X σ s A st hne) (fun v s₁ h₁ => ?_) fun _ _ x => x) (hs _ _ _))
  obtain ⟨b, σ', g, e, hg, k, L, r⟩ := h₁
  refine zAa (st.keep hg k L).fr fw hx r fun b' s' hY hX m fr => wpAny_execs_nil ?_
  have ky : Kp f (ya env) s s₁ := k.mono fun a h => nomatch h
  exact ⟨b, σ', g, e, hg, ky.trans hg (m.kp hY), m.lk hX L, ⟨rfl, fr⟩, fr⟩
end
end Mine
end

/-! # StmtY -/
section
set_option autoImplicit false
namespace Mine
open PySem PyProof.Rows
section
variable {S : Stat} {C : Ctx} {T : Nat → Option Fn} {F Fq : Calls} {q : Bool} {d : Nat} {Γ : List Str} {sc : Scope}
variable {X X' Y Z : List Addr} {f g : List Loc} {σ : Sto} {s s' s₀ : Shared} {A : Around} {E : Value → Shared → Prop} {I a ea : Addr} {its : Items} {i : Nat} {env : Env} {ρ : List V}
theorem match_at {M : Model} {h : Heap} {g : Array GenState} {d : Drawn} {t : Nat} {os : OsState} {oe : Obj} {Q : Bool → Shared → Prop}
    {nm q nm' q' : Str} {Ca N Cd N' : Addr} {bs bm bs' bm' : List Value} {hdct hdct' : Bool} {sn sn' : List Str} {sub sub' : List Value} {ab ab' : Bool} {col col' : Option Bool} {dd dd' : Option Addr} {k0 k1 k2 k3 k5 k0' k1' k2' k3' k5' : Option Value} {newId newId' : String}
    (hC : h.get? Ca = some (excClassObj nm q Ca N bs bm hdct sn sub ab col dd k0 k1 k2 k3 k5 newId)) (hD : h.get? Cd = some (excClassObj nm' q' Cd N' bs' bm' hdct' sn' sub' ab' col' dd' k0' k1' k2' k3' k5' newId'))
    (he : h.get? ea = some oe) (hcls : oe.cls = .ref Ca) (hbase : bm'.contains (.type "BaseException") = true)
    {b : Bool} (hb : (Value.ref Ca :: bm).contains (.ref Cd) = b) (hq : Q b ⟨h, g, d, t, os⟩) : wpAny M A (excMatches (.ref ea) (.ref Cd)) Q E ⟨h, g, d, t, os⟩ := by
  have hcB : (Value.ref Cd :: bm').contains (.type "BaseException") = true := by rw [List.contains_cons, hbase, Bool.or_true]
  have f := tc_notTuple
  unfold excMatches
  cases b <;>
  (repeat (first | (with_reducible refine wpAny_loadPart_at he ?_; rw [hcls]) | with_reducible refine wpAny_loadPart_at hD ?_ | (with_reducible refine wpAny_isSubtype_exc hD ?_; rw [hcB]) | (with_reducible refine wpAny_isSubtype_exc hC ?_; rw [hb]) | wp_step)
   exact hq)
theorem zGs {c k : Cls} {oe : Obj} {Q : Bool → Shared → Prop} (L : Lk S X f σ s.heap) (xc : ExcCl S c) (xk : ExcCl S k) (hk : k ∈ S.kn) (he : s.heap.get? ea = some oe) (hcls : oe.cls = S.cl c) (h : Q (c.sub k) s) :
    wpAny (model S.prog S.w) A (excMatches (.ref ea) (S.cl k)) Q E s := by
  obtain ⟨Ca, bm, N, nm, qn, bs, hdct, sn, sub, ab, col, dd, k0, k1, k2, k3, k5, mN, hcl, hC, hN, hni, OT, hm, _⟩ := xc
  obtain ⟨Cd, bm', N', nm', qn', bs', hdct', sn', sub', ab', col', dd', k0', k1', k2', k3', k5', mN', hcl', hC', hN', hni', OT', hm', _⟩ := xk
  have := hm k hk
  rw [hcl'] at this ⊢
  rw [hcl] at hcls
  obtain ⟨hp, g, d, tk, os⟩ := s
  exact match_at (L.base _ _ hC) (L.base _ _ hC') he hcls (OT'.hasType rfl) this h
theorem instX {k : Cls} {a x : V} (e : ev1 (.isInst (.exc k)) σ a = some x) : ∃ c, a = .exc c ∧ x = .bool (c.sub k) := by
  have e : (instK σ (.exc k) a).map V.bool = some x := e
  cases a with
  | exc c => cases e; exact ⟨c, rfl, rfl⟩
  | ref n =>
    have e : (refK σ[n]? (.exc k)).map V.bool = some x := e
    cases h : σ[n]? with
    | none => rw [h] at e; exact zAA e
    | some o => rw [h] at e; cases o <;> exact zAA e
  | _ => exact zAA e
theorem vr_exc {h : Heap} {c : Cls} {v : Value} (r : VR S X f h (.exc c) v) : ∃ a o, v = .ref a ∧ (a ∉ addrs f ∧ a ∉ X) ∧ h.get? a = some o ∧ o.cls = S.cl c ∧ ExcCl S c := by
  rw [VR] at r; exact r
theorem isX_sound {c k : Cls} {oe : Obj} (L : Lk S X f σ s.heap) (xc : ExcCl S c) (xk : ExcCl S k) (hk : k ∈ S.kn) (he : s.heap.get? ea = some oe) (hcls : oe.cls = S.cl c) :
    wpAny (model S.prog S.w) A (call (.builtin "isinstance") [.ref ea, S.cl k]) (PE S X f s (.bool (c.sub k))) E s := by
  obtain ⟨Ca, bm, N, nm, qn, bs, hdct, sn, sub, ab, col, dd, k0, k1, k2, k3, k5, mN, hcl, hC, hN, hni, OT, hm, TC⟩ := xc
  obtain ⟨Cd, bm', N', nm', qn', bs', hdct', sn', sub', ab', col', dd', k0', k1', k2', k3', k5', mN', hcl', hC', hN', hni', OT', hm', _⟩ := xk
  have := hm k hk
  rw [hcl'] at this ⊢
  rw [hcl] at hcls
  obtain ⟨hp, g, d, tk, os⟩ := s
  exact isi_own (L.base _ _ hC) (TC.keeps L.base) (L.base _ _ hC') he hcls this .bool0 .bool
theorem zGq (fs : Facts S C T) {k : Str} {kc : Cls} {p pk pos : Pos} {e : Expr} {c : CE} (hg : isGlob sc "isinstance" = true) (hn : C.fns.lookup ("isinstance" : Str) = none) (hk : excOf C sc k = some kc) (hs : isStar e = false) (h : EOk S F q d Γ sc e c) :
    EOk S F q d Γ sc (.Call (.Name ("isinstance" : Str) p) [e, .Name k pk] [] pos) (.p1 (.isInst (.exc kc)) c) := fun env ρ f X σ s A st hne => by
  rw [x_p1, show loud1 (.isInst (.exc kc)) = false from rfl, Bool.false_and, if_neg (by simp)] at hne ⊢
  refine wpAny_Call_NameR (zAf fs st hg hn (.inr (.inr (.inr (.inl rfl)))) zCm (by decide) ?_)
  refine zAP (zAK _ (by rw [List.any_cons, hs]; rfl)) (spliced2 hs rfl ?_)
  refine Sim.goN (h env ρ f X σ s A st) hne (fun _ _ x => x.qs) (fun _ _ x => x) fun va a' σ₁ g₁ s₁ hne hg k L ra hQ hE => ?_
  have st1 := st.keep hg k L
  refine zFN fs st1.fr st1.lk hk fun hx hv => ?_
  obtain ⟨x, hx'⟩ := zAb hne
  rw [hx'] at hQ
  obtain ⟨c0, rfl, rfl⟩ := instX hx'
  obtain ⟨a, o, rfl, -, e3, e4, e5⟩ := vr_exc ra
  exact ⟨zAR (by simp), wpAny_mono (isX_sound L e5 ((fs.exc _ kc hx).2 hv) (fs.exc _ kc hx).1 e3 e4) (fun v s' p => hQ v s' (p.here L)) fun _ _ x => x⟩
theorem Cx.mark {fr : Option Addr} {h : Heap} {v : Value} (c : Cx S A q d f h fr) : Cx S (A.mark (some v)) true d f h fr :=
  ⟨c.depth, c.units, fun h => (nomatch h), c.frs⟩
theorem gone_sound {x : Str} {pos : Pos} {Q : Unit → Shared → Prop} (fr : FR S X f s.heap env Γ sc ρ) (fw : FW env X) (hl : sc.names.lookup x = some .local) (hx : slotOf Γ sc x = some i)
    (h : ∀ s', Mv env.locals s s' → FR S X f s'.heap env Γ sc (ρ.set i .undef) → Q () s') : wpAny (model S.prog S.w) A (do bindName env x .none; unbindBehindTheSuite env x pos) Q E s := by
  obtain ⟨-, hi⟩ := zDp hx
  have hk : env.kindOf x = some .local := by
    rcases fr.names x with e | ⟨e, _⟩
    · rw [e]; exact hl
    · rw [hl] at e; first | exact zAA e | exact ff_tt e | cases e
  have hil : i < ρ.length := by rw [fr.len]; exact zBe hi
  obtain ⟨m, hm⟩ := fr.loc.2
  have setv : ∀ {j : Nat} {v' : V}, (ρ.set i .undef)[j]? = some v' → j ≠ i → ρ[j]? = some v' := fun h hne => by rwa [List.getElem?_set_ne (fun q => hne q.symm)] at h
  have cellNe : ∀ x c, isCellKind (env.kindOf x) → env.cells.lookup x = some c → c ≠ env.locals := fun x c hk e q => by
    obtain ⟨c', o, e', _, ⟨ob, h1, h2⟩⟩ := fr.cells x hk
    rw [e] at e'; cases e'
    obtain ⟨ob', es, ep, h3, h4, _⟩ := hm
    rw [q, h3] at h1; cases h1; rw [h4] at h2; cases h2
  refine wpAny_nameGoes_keeps hk hm (by simp [fr.kind]) fun h' v hn' hs' => ?_
  obtain ⟨o2, es2, ep2, e3, e4, _⟩ := id hn'
  have mv : Mv env.locals s { s with heap := h', toks := s.toks + 1 } := ⟨rfl, fun b o hb e => (hs'.2 b hb).trans e, ⟨o2, e3⟩, fun _ _ _ _ _ => ⟨o2, es2, ep2, e3, e4⟩⟩
  have cl : ∀ {b : Addr} {m' : Option Value}, b ≠ env.locals → s.heap.IsCell b m' → h'.IsCell b m' := fun hb h => by
    obtain ⟨o, ho, r⟩ := h
    exact ⟨o, mv.keep _ _ hb ho, r⟩
  refine h _ mv ⟨fr.kind, fr.glob, fr.blt, fr.names, ⟨fr.loc.1, _, hn'⟩, fun y hy => ?_, fun y j v' h1 h2 h3 h4 => ?_, by rw [List.length_set]; exact fr.len⟩
  · obtain ⟨c, o, e1, hX, h5⟩ := fr.cells y hy
    exact ⟨c, o, e1, hX, cl (cellNe y c hy e1) h5⟩
  · by_cases hj : j = i
    · subst hj
      rw [List.getElem?_set_self hil] at h3; cases h3
      exact absurd rfl h4
    · obtain ⟨w', h5, h6⟩ := fr.vals y j v' h1 h2 (setv h3 hj) h4
      refine ⟨w', ?_, mv.vr fw.loc h6⟩
      rcases h5 with ⟨k, m', h7, h8⟩ | ⟨k, c, h7, h8⟩
      · refine .inl ⟨k, _, hn', ?_⟩
        have hyx : y ≠ x := fun q => by rw [q, hi] at h2; cases h2; exact hj rfl
        obtain ⟨ob, es, ep, q1, q2, q3, q4⟩ := h7
        obtain ⟨ob', es', ep', p1, p2, p3, p4⟩ := hm
        rw [q1] at p1; cases p1; rw [q2] at p2; cases p2
        show (if y = x then v else m y) = some w'
        rw [if_neg hyx, ← p4 y, q4 y, h8]
      · exact .inr ⟨k, c, h7, cl (cellNe y c k h7) h8⟩
noncomputable def AsOk (Γ : List Str) (sc : Scope) (n : Option Str) (as : Option Nat) : Prop := (n = none ∧ as = none) ∨ ∃ x i, n = some x ∧ as = some i ∧ sc.names.lookup x = some .local ∧ slotOf Γ sc x = some i
structure HdOk (S : Stat) (C : Ctx) (Fq : Calls) (d : Nat) (Γ : List Str) (sc : Scope) (h : ExceptHandler) (c : Hd) : Prop where
  ex : ∃ x np n b₀ body pos, h = .ExceptHandler (some (.Name x np)) n (b₀ :: body) pos ∧ excOf C sc x = some c.cls ∧ AsOk Γ sc n c.as ∧ TKOk S Fq true d Γ sc (b₀ :: body) c.tk c.e
inductive TKCalm (S : Stat) (A : Around) (X : List Addr) (env : Env) (Γ : List Str) (sc : Scope) (f : List Loc) (s : Shared) (ρ : List V) (ss : List Stmt) (k : TK) (r : R V) : Prop
  | mk (v : V) (σ' : Sto) (e : r = .ok v σ') (w : ∀ E, wpAny (model S.prog S.w) A (execs ss env) (QT S X env Γ sc f s ρ k (.ok v σ')) E s)
theorem TKOk.calm {ss : List Stmt} {k : TK} {c : CE} {γ : Type} {rk : V → Sto → R γ} (h : TKOk S F q d Γ sc ss k c) (st : St S q d Γ sc env ρ f X σ s A) (fw : FW env X) (hne : (evE F q c ρ σ).calm.bind rk ≠ .stuck) :
    TKCalm S A X env Γ sc f s ρ ss k (evE F q c ρ σ) := by
  have hs := h env ρ f X σ s A st fw
  cases hr : evE F q c ρ σ with
  | ok v σ' =>
    rw [hr] at hs
    refine ⟨v, σ', rfl, fun E => wpAny_mono (hs (by simp)) (fun _ _ x => x) fun e s' q => ?_⟩
    obtain ⟨_, _, _, _, _, e, _⟩ := q; cases e
  | exc _ _ => rw [hr] at hne; exact absurd rfl hne
  | stuck => rw [hr] at hne; exact absurd rfl hne
structure Met (S : Stat) (q : Bool) (d : Nat) (Γ : List Str) (sc : Scope) (env : Env) (ρ : List V) (f g : List Loc) (X : List Addr) (σ₀ σ : Sto) (s₀ s : Shared) (A : Around) (ea : Addr) (k : Cls) : Prop where
  st : St S q d Γ sc env ρ f X σ₀ s₀ A
  fw : FW env X
  fresh : Fresh g s₀
  kp : Kp f [] s₀ s
  lk : Lk S X (f ++ g) σ s.heap
  exc : ExcR S X (f ++ g) σ s.heap s₀.heap ea k
theorem Met.alive {σ₀ : Sto} {k : Cls} (m : Met S q d Γ sc env ρ f g X σ₀ σ s₀ s A ea k) : ∀ a ∈ X, ∃ o, s₀.heap.get? a = some o := fun a ha => (m.st.lk.hid a ha).2.2
theorem handle_ok (fs : Facts S C T) {σ₀ : Sto} {k : Cls} (m : Met S q d Γ sc env ρ f g X σ₀ σ s₀ s A ea k) : ∀ {hs : List ExceptHandler} {cs : List Hd}, All2 (HdOk S C Fq d Γ sc) hs cs → exH Fq cs ρ k σ ≠ .stuck →
    wpAny (model S.prog S.w) A (handleBy (.ref ea) env hs) (QF S X env Γ sc f s₀ (exH Fq cs ρ k σ)) E s := by
  intro hs cs h
  induction h with
  | nil => intro hne; exact absurd rfl hne
  | @cons h c hs cs hh hr ih =>
    intro hne
    obtain ⟨x, np, n, b₀, body, pos, rfl, hx, has, htk⟩ := hh.ex
    have st := m.st.keep m.fresh m.kp m.lk
    have e0 : exH Fq (c :: cs) ρ k σ = if k.sub c.cls = true then ((evE Fq true c.e (hdEnv c.as k ρ) σ).calm.bind fun v σ => .ok (hdEnd c.as (tkFl c.tk v (hdEnv c.as k ρ))) σ) else exH Fq cs ρ k σ := rfl
    rw [e0] at hne ⊢
    obtain ⟨e1, ec, hs', oe, vs, Lh, e4, e5, e6, e8⟩ := id m.exc
    refine wpAny_handleBy_cons (codeAny_handlers_test (zFN fs st.fr m.lk hx fun hc hv => ?_)) (by intro q; cases q)
    refine zGs m.lk ec ((fs.exc x c.cls hc).2 hv) (fs.exc x c.cls hc).1 e4 e5 ?_
    by_cases hsub : k.sub c.cls = true
    · rw [if_pos hsub] at hne
      rw [hsub]
      simp only [if_true]
      rcases has with ⟨rfl, ha⟩ | ⟨y, i, rfl, ha, hl, hsl⟩
      · rw [ha] at hne ⊢
        refine codeAny_handlers_suite (zBA m.exc m.alive fun h' hs'' hf N L' x' => ?_)
        have kp' := N.kp m.kp hf
        have st' : St S true d Γ sc env ρ (f ++ g) X σ { s with heap := h' } (A.mark (some (.ref ea))) := by
          have := m.st.keep m.fresh kp' L'
          exact ⟨this.cx.mark, this.fr, this.lk⟩
        obtain ⟨v, σ', ev, w⟩ := htk.calm st' m.fw hne
        refine wpAny_mono (w _) (fun fl s₁ q => ?_) fun _ _ x => x
        obtain ⟨v', σ2, g2, ez, hg2, k2, L2, p2, -⟩ := q
        cases ez
        rw [show hdEnv none k ρ = ρ from rfl, ev]
        have kp1 : Kp f (ya env) s₀ { s with heap := h' } := kp'.mono fun a h => nomatch h
        rw [List.append_assoc] at L2 p2
        exact ⟨_, σ', g ++ g2, rfl, m.fresh.trans kp1.live hg2, kp1.trans m.fresh k2, L2, p2⟩
      · rw [ha] at hne ⊢
        refine codeAny_handlers_suite_as (zBA m.exc m.alive fun h' hs'' hf N L' x' => ?_)
        have kp' := N.kp m.kp hf
        have st' := m.st.keep m.fresh kp' L'
        obtain ⟨e1', ec', hs3, oe', vs', Lh', e4', e5', e6', e8'⟩ := x'
        have hea : ea ∈ hs3 := by rcases e8' with ⟨rfl, _⟩ | ⟨T, _, _, rfl, _⟩ <;> exact List.mem_cons_self
        have r : VR S X (f ++ g) h' (.exc k) (.ref ea) := by
          rw [VR]
          refine ⟨ea, oe', rfl, ⟨(Lh'.hid ea (List.mem_append_left _ hea)).2.1, fun q => ?_⟩, e4', e5', ec'⟩
          obtain ⟨o, z⟩ := m.alive ea q; rw [e1'] at z; cases z
        refine zAa (s := { s with heap := h' }) st'.fr m.fw hsl r fun b s₁ hY hX mv fr => ?_
        have kp1 : Kp f (ya env) s₀ s₁ := (kp'.mono fun a h => nomatch h).trans m.fresh (mv.kp hY)
        have st1 : St S true d Γ sc env (ρ.set i (.exc k)) (f ++ g) X σ s₁ (A.mark (some (.ref ea))) := ⟨(m.st.cx.keep kp1 m.fresh).mark, fr, mv.lk hX L'⟩
        obtain ⟨v, σ', ev, w⟩ := htk.calm st1 m.fw hne
        refine wpAny_mono (w _) (fun fl s₂ q => ?_) fun _ _ x => x
        obtain ⟨v', σ2, g2, ez, hg2, k2, L2, p2, fr2⟩ := q
        cases ez
        have fg2 : Fresh (g ++ g2) s₀ := m.fresh.trans kp1.live hg2
        have kp2 : Kp f (ya env) s₀ s₂ := kp1.trans m.fresh k2
        rw [List.append_assoc] at L2 p2 fr2
        rw [show hdEnv (some i) k ρ = ρ.set i (.exc k) from rfl, ev]
        refine gone_sound fr2 m.fw hl hsl fun s₃ mv3 fr3 => ?_
        refine ⟨_, σ', g ++ g2, rfl, fg2, kp2.trans fg2 (mv3.kp List.mem_cons_self), mv3.lk m.fw.loc L2, ?_⟩
        cases htk : c.tk with
        | ret =>
          rw [htk] at p2
          obtain ⟨w2, rfl, r2⟩ := p2
          exact ⟨w2, rfl, mv3.vr m.fw.loc r2⟩
        | asg j => rw [htk] at p2 fr3; exact ⟨p2.1, fr3⟩
        | exp => rw [htk] at p2 fr3; exact ⟨p2.1, fr3⟩
    · rw [if_neg hsub] at hne ⊢
      have : k.sub c.cls = false := by simpa using hsub
      rw [this]
      exact ih hne
theorem ok_try (fs : Facts S C T) {b₀ : Stmt} {body : List Stmt} {h₀ : ExceptHandler} {hs : List ExceptHandler} {k : TK} {c : CE} {cs : List Hd} {pos : Pos} (hb : TKOk S F q d Γ sc (b₀ :: body) k c) (hh : All2 (HdOk S C Fq d Γ sc) (h₀ :: hs) cs) :
    SOk S F Fq q d Γ sc (.Try (b₀ :: body) (h₀ :: hs) [] [] pos) (.try k c cs) := fun env ρ f X σ s A st fw hne => by
  have e0 : exS F Fq q (.try k c cs) ρ σ = if q = true then .stuck else (evE F q c ρ σ).orElse (fun v σ => .ok (tkFl k v ρ) σ) (exH Fq cs ρ) := rfl
  rw [e0] at hne ⊢
  by_cases hq : q = true
  · rw [if_pos hq] at hne; exact absurd rfl hne
  rw [if_neg hq] at hne ⊢
  have hr : evE F q c ρ σ ≠ .stuck := fun e => hne (by rw [e]; rfl)
  refine wpAny_Try_except (wpAny_mono (hb env ρ f X σ s A st fw hr) (fun fl s₁ h₁ => ?_) fun e s₁ h₁ => ?_)
  · obtain ⟨v, σ', g, e, hg, kk, L, p, -⟩ := h₁
    rw [e]
    have : QF S X env Γ sc f s ((R.ok v σ').orElse (fun v σ => .ok (tkFl k v ρ) σ) (exH Fq cs ρ)) fl s₁ := ⟨_, σ', g, rfl, hg, kk, L, p⟩
    cases fl with
    | next => exact wpAny_execs_nil this
    | _ => exact this
  · obtain ⟨c', σ', g, ea, rfl, e2, hg, kk, L, x⟩ := h₁
    rw [e2] at hne ⊢
    have hne : exH Fq cs ρ c' σ' ≠ .stuck := hne
    obtain ⟨en, l, h1, h2, h3⟩ := (st.cx.keep kk hg).frs
    have hX : ∀ a ∈ X, ∃ o, s.heap.get? a = some o := fun a ha => (st.lk.hid a ha).2.2
    obtain ⟨h0, L1, o, es, n, h4, -⟩ := h3 en List.mem_cons_self
    rw [zBU (env' := en) h2]
    refine zEr h1 h3 h4 x hX kk fun h' kk' L' x' => ?_
    have m : Met S q d Γ sc env ρ f g X σ σ' s { s₁ with heap := h' } A ea c' := ⟨st, fw, hg, kk', L', x'⟩
    exact handle_ok fs m hh hne
end
end Mine
end

/-! # ExprB -/
section
set_option autoImplicit false
namespace Mine
open PySem PyProof.Rows
section
variable {S : Stat} {C : Ctx} {T : Nat → Option Fn} {F Fq : Calls} {q : Bool} {d : Nat} {Γ : List Str} {sc : Scope}
variable {X X' Y Z : List Addr} {f g : List Loc} {σ : Sto} {s s' : Shared} {A : Around} {E : Value → Shared → Prop} {env : Env} {ρ : List V}
theorem few_any {es : List Expr} {pos : Pos} (hs : es.any isStar = false) (hl : es.length ≤ 20) : ((backTo pos (starEach es env)).all (fun x => !x.1) && (backToKw pos (keywordEach [] env)).all (fun x => x.1.isSome)
      && decide (es.length + ([] : List Keyword).length + (if ([] : List Keyword).isEmpty then 0 else 1) < 30)) = true := by
  have h1 : (backTo pos (starEach es env)).all (fun x => !x.1) = true := by
    have := zAK (env := env) (pos := pos) es hs
    rw [List.any_eq_false] at this
    rw [List.all_eq_true]
    intro x hx
    simpa using this x hx
  rw [h1]
  exact decide_eq_true (show es.length + 0 + 0 < 30 by omega)
theorem meth_call {o : Expr} {name : Str} {apos pos : Pos} {args : List Expr} {Q : Value → Shared → Prop} (hbase : attributeBase o name env (eval o env) = eval o env)
    (hfew : ((backTo pos (starEach args env)).all (fun x => !x.1) && (backToKw pos (keywordEach [] env)).all (fun x => x.1.isSome)
      && decide (args.length + ([] : List Keyword).length + (if ([] : List Keyword).isEmpty then 0 else 1) < 30)) = true) (hline : (apos.endLine == pos.line) = true)
    (h : wpAny (model S.prog S.w) A (eval o env) (fun ov s₁ => ∀ pl, wpAny (model S.prog S.w) A (getMethod ov name pl) (fun fx s₂ => wpAny (model S.prog S.w) A (callWith pos fx.1 fx.2 (backTo pos (starEach args env)) []) Q E s₂) E s₁) E s) :
    wpAny (model S.prog S.w) A (eval (.Call (.Attribute o name apos) args [] pos) env) Q E s := by
  rw [arm_eval_Call, hbase]
  refine wpAny_bind (wpAny_mono h (fun ov s₁ h₁ => ?_) fun _ _ e => e)
  refine wpAny_bind (wpAny_standAt ?_)
  have hform : methodCallForm (args.length + ([] : List Keyword).length) (backTo pos (starEach args env)) (backToKw pos (keywordEach [] env)) = true := hfew
  have hpos : methodCallPos true o env apos pos = pure pos := by unfold methodCallPos; simp [hline]
  unfold methodCall
  rw [hform]
  refine wpAny_bind (wpAny_holding (wpAny_mono (h₁ _) (fun fx s₂ h₂ => ?_) fun _ _ x => x))
  obtain ⟨fv, first⟩ := fx
  exact wpAny_bind (wpAny_of_eq hpos h₂)
inductive InstAt (S : Stat) (X : List Addr) (f : List Loc) (s : Shared) (as : List (Nat × V)) (n : Nat) (v : Value) : Prop
  | mk (ax dx : Addr) (ob : Obj) (mA : Str → Option Value) (e : v = .ref ax) (hf : f[n]? = some (ax, some dx)) (h1 : s.heap.get? ax = some ob) (h2 : ob.cls = .ref S.book ∧ ob.dict = some dx ∧ (∀ c, ob.data ≠ .cls c) ∧ dx ≠ ax) (h3 : s.heap.Ns1 dx mA)
      (h4 : ∀ k x, as.lookup k = some x → ∃ w, mA (attrName k) = some w ∧ VR S X f s.heap x w) (h5 : ∀ x v, mA x = some v → x = attrName 0 ∨ x = attrName 1) (h6 : ∀ k, k ∈ as.map (·.1) → k < 2) (h7 : s.heap.Inst ax S.book mA)
theorem zGz {n : Nat} {v : Value} {as : List (Nat × V)} (L : Lk S X f σ s.heap) (r : VR S X f s.heap (.ref n) v) (ho : σ[n]? = some (.inst as)) :
    InstAt S X f s as n v := by
  rw [VR] at r
  obtain ⟨⟨ax, dd⟩, hl, rfl⟩ := r
  have := L.obj n _ _ hl ho
  cases dd with
  | none => exact this.elim
  | some dx =>
    obtain ⟨ob, mA, e1, e2, e3, e4, e5, e6⟩ := this
    exact ⟨ax, dx, ob, mA, rfl, hl, e1, e2, e3, e4, e5, e6, ob, e1, e2.1, e2.2.2.1, .inr ⟨dx, e2.2.1, e2.2.2.2, e3⟩⟩
theorem handed (fs : Facts S C T) {x : V} {w : Value} (r : VR S X f s.heap x w) : handedOut w = pure w := by
  cases x with
  | undef => rw [VR] at r; exact r.elim
  | none => rw [VR] at r; subst r; rfl
  | bool b => rw [VR] at r; subst r; rfl
  | int i => rw [VR] at r; obtain ⟨t, rfl⟩ := r; rfl
  | str y => rw [VR] at r; obtain ⟨⟨t, rfl⟩, _⟩ := r; rfl
  | tup xs => rw [VR] at r; obtain ⟨a, _, _, rfl, _⟩ := r; rfl
  | lst xs => rw [VR] at r; obtain ⟨a, _, _, rfl, _⟩ := r; rfl
  | ref n => rw [VR] at r; obtain ⟨l, _, rfl⟩ := r; rfl
  | exc c => rw [VR] at r; obtain ⟨a, _, rfl, _⟩ := r; rfl
  | parts => rw [VR] at r; obtain ⟨hp, rfl⟩ := r; obtain ⟨dA, _, e, _⟩ := fs.parts hp; rw [e]; rfl
theorem zFl : typeLookup (.type "object") (attrName 0) = pure none := by rw [typeLookup_type, builtinLookup_eq_fast]; kernel_rfl
theorem zFk : typeLookup (.type "object") (attrName 1) = pure none := by rw [typeLookup_type, builtinLookup_eq_fast]; kernel_rfl
theorem zFB {m : Str} {k : Nat} (h : attrNames.lookup m = some k) : k < 2 ∧ m = attrName k := by
  have := zAG h
  simp only [attrNames, List.mem_cons, Prod.mk.injEq, List.not_mem_nil, or_false] at this
  rcases this with ⟨rfl, rfl⟩ | ⟨rfl, rfl⟩
  · exact ⟨by decide, rfl⟩
  · exact ⟨by decide, rfl⟩
theorem ok_attr (fs : Facts S C T) {o : Expr} {a : CE} {m : Str} {k : Nat} {pos : Pos} (hm : C.attrs.lookup m = some k) (hb : noSuper o = true) (ho : EOk S F q d Γ sc o a) : EOk S F q d Γ sc (.Attribute o m pos) (.attr a k) := fun env ρ f X σ s A st hne => by
  rw [x_attr] at hne ⊢
  rcases fs.book with ⟨_, _, h0⟩ | ⟨hat, B⟩
  · rw [h0] at hm; first | exact zAA hm | exact ff_tt hm | cases hm
  rw [hat] at hm
  obtain ⟨hk, rfl⟩ := zFB hm
  obtain ⟨N, mN, nm, qn, bs, sn, sub, col, dd, k0, k1, k2, k3, k5, hC, hN, hq, _⟩ := B
  rw [arm_eval_Attribute, zAs hb]
  refine wpAny_bind (Sim.goQ (P' := PV S X) (ho env ρ f X σ s A st) hne (fun _ _ x => x) (fun _ _ x => x) fun va a' σ₁ g₁ s₁ hne hg kk L ra hQ hE => wpAny_bind (wpAny_standAt (wpAny_bind (wpAny_holding ?_))))
  obtain ⟨x, hx⟩ := zAb hne
  rw [hx] at hQ
  cases a' with
  | ref n =>
    have hx : attrO k σ₁[n]? = some x := hx
    cases hσ : σ₁[n]? with
    | none => rw [hσ] at hx; first | exact zAA hx | exact ff_tt hx | cases hx
    | some obj =>
    rw [hσ] at hx
    cases obj with
    | inst as =>
      obtain ⟨ax, dx, ob, mA, rfl, hf, e1, e2, e3, e4, e5, e6, I⟩ := zGz L ra hσ
      obtain ⟨w, hw, rw'⟩ := e4 k x hx
      obtain ⟨hp, gg, dr, tk, os⟩ := s₁
      have hna : mN (attrName k) = none := by
        match k, hk with
        | 0, _ => exact hq.2.2.2.1
        | 1, _ => exact hq.2.2.2.2
      have hB : typeLookup (.type "object") (attrName k) = pure none := by
        match k, hk with
        | 0, _ => exact zFl
        | 1, _ => exact zFk
      refine load_attr (L.base _ _ hC) (L.ns hN) hq.1 hna hB I hw (handed fs rw') (wpAny_bind (wpAny_letTemporaryGo (wpAny_pure ?_)))
      have ex : Ext ⟨hp, gg, dr, tk, os⟩ ⟨hp, gg, dr, tk + 1, os⟩ := ⟨rfl, fun _ _ e => e⟩
      exact hQ _ _ ⟨x, σ₁, [], rfl, .nil _, ex.kp _ _, by rw [List.append_nil]; exact L, by rw [List.append_nil]; exact rw'⟩
    | _ => first | exact zAA hx | exact ff_tt hx | cases hx
  | _ => first | exact zAA hx | exact ff_tt hx | cases hx
theorem ok_callm (fs : Facts S C T) (FSs : FS S F q d) {o : Expr} {a : CE} {m : Str} {n : Nat} {apos pos : Pos} {es : List Expr} {cs : List CE} (hm : C.meths.lookup m = some n) (hb : noSuper o = true) (hp : (apos.endLine == pos.line) = true) (hlen : es.length ≤ 20)
    (ho : EOk S F q d Γ sc o a) (h : All2 (GOk S F q d Γ sc) es cs) : EOk S F q d Γ sc (.Call (.Attribute o m apos) es [] pos) (.callm n a cs) := fun env ρ f X σ s A st hne => by
  rw [x_callm] at hne ⊢
  rcases fs.book with ⟨_, h0, _⟩ | ⟨hat, B⟩
  · rw [h0] at hm; first | exact zAA hm | exact ff_tt hm | cases hm
  obtain ⟨N, mN, nm, qn, bs, sn, sub, col, dd, k0, k1, k2, k3, k5, hC, hN, hqt, _, _, hms⟩ := B
  obtain ⟨hmf, of, hof, hoc⟩ := hms m n hm
  have hl := LOk.of h
  refine meth_call (zAs hb) (few_any hl.1 hlen) hp ?_
  refine Sim.goQ (P' := PV S X) (ho env ρ f X σ s A st) hne (fun _ _ x => x) (fun _ _ x => x) fun va a' σ₁ g₁ s₁ hne hg kk L ra hQ hE pl => ?_
  by_cases hi : isInst σ₁ a' = true
  case neg => rw [if_neg hi] at hne; exact absurd rfl hne
  rw [if_pos hi] at hne hQ hE
  cases a' with
  | ref k =>
    simp only [isInst] at hi
    split at hi
    · rename_i as hσ
      obtain ⟨ax, dx, ob, mA, rfl, hf, e1, e2, e3, e4, e5, e6, I⟩ := zGz L ra hσ
      have hsh : mA m = none := by
        cases e : mA m with
        | none => rfl
        | some v =>
          rcases e5 m v e with z | z
          · rw [z, hqt.2.2.2.1] at hmf; first | exact zAA hmf | exact ff_tt hmf | cases hmf
          · rw [z, hqt.2.2.2.2] at hmf; first | exact zAA hmf | exact ff_tt hmf | cases hmf
      obtain ⟨hh, gg, dr, tk, os⟩ := s₁
      refine method_of (L.base _ _ hC) (L.ns hN) hqt.1 hqt.2.1 hmf (L.base _ _ hof) hoc (typeLookup_type _ _) I hsh ?_
      refine zAP (zAK _ hl.1) ?_
      refine Sim.goQ (P' := PV S X) (hl.2 env pos ρ _ X σ₁ _ A (st.keep hg kk L)) hne hQ hE fun vs xs σ₂ g₂ s₂ hne hg₂ k₂ L₂ rs hQ hE => ?_
      have ra₂ := VR.keepK k₂ hg₂ (fun _ h => nomatch h) ra
      obtain ⟨⟨o, fd, h1, h2⟩, h3⟩ := FSs n (.ref k :: xs) σ₂ _ X A s₂ (.ref ax :: vs) ((st.keep hg kk L).keep hg₂ k₂ L₂).cx.call L₂ (by rw [VRs]; exact ⟨ra₂, rs⟩) hne
      refine ⟨.inr ⟨_, o, fd, rfl, L₂.base _ _ h1, h2⟩, wpAny_call ?_⟩
      refine codeAny_mono h3 fun r s' hq => ?_
      match r, hq with
      | .ok (.ret v), hq => exact hQ v s' hq
      | .error e, hq => exact hE e s' hq
    · first | exact zAA hi | exact ff_tt hi | cases hi
  | _ => first | exact zAA hi | exact ff_tt hi | cases hi
theorem call_cls {pos : Pos} {Cb N : Addr} {nm qn : Str} {bs bm : List Value} {hdct : Bool} {sn : List Str} {sub : List Value} {ab : Bool} {col : Option Bool} {dd : Option Addr} {k0 k1 k2 k3 k5 : Option Value} {newId : String} {Q : Value → Shared → Prop}
    (hC : s.heap.get? Cb = some (excClassObj nm qn Cb N bs bm hdct sn sub ab col dd k0 k1 k2 k3 k5 newId)) (h : wpAny (model S.prog S.w) A (call (.ref Cb) []) Q E s) : wpAny (model S.prog S.w) A (callWith pos (.ref Cb) [] (backTo pos (starEach [] env)) []) Q E s := by
  show wpAny (model S.prog S.w) A (callWith pos (.ref Cb) [] [] []) Q E s
  unfold callWith
  refine wpAny_bind (wpAny_holding (evalArgs_empty ?_))
  refine wpAny_bind (wpAny_standAt ?_)
  obtain ⟨hh, gg, dr, tk, os⟩ := s
  refine wpAny_bind (wpAny_keeperOf_exc hC ?_)
  exact wpAny_bind (wpAny_mono h (fun r s' q => wpAny_bind (wpAny_holding (wpAny_point (wpAny_pure q)))) fun _ _ q => q)
theorem ok_new (fs : Facts S C T) (FSs : FS S F q d) {p pos : Pos} (hbk : C.book = true) (hg : isGlob sc "Book" = true) : EOk S F q d Γ sc (.Call (.Name "Book" p) [] [] pos) .new := fun env ρ f X σ s A st hne => by
  have e0 : evE F q .new ρ σ = (F 0 [.ref σ.length] (σ ++ [.inst []])).bind (newEnd σ.length) := rfl
  rw [e0] at hne ⊢
  rcases fs.book with ⟨h0, _⟩ | ⟨hat, B⟩
  · rw [h0] at hbk; first | exact zAA hbk | exact ff_tt hbk | cases hbk
  obtain ⟨N, mN, nm, qn, bs, sn, sub, col, dd, k0, k1, k2, k3, k5, hC, hN, hqt, hini, ⟨of, hof, hoc⟩, _⟩ := B
  obtain ⟨mg, mb, g1, g2, g3, g4, g5, g6, _⟩ := fs.g
  refine wpAny_Call_NameR (wpAny_Name (zBF st.fr.kind (st.fr.isGlob hg) (by rw [st.fr.glob]; exact st.lk.ns g1) (g6 hbk) ?_) (by decide))
  refine call_cls (st.lk.base _ _ hC) ?_
  have L := st.lk
  have cx := st.cx
  have key : ∀ h' x dx, Heap.MadeObj s.heap h' x dx S.book → wpAny (model S.prog S.w) (A.under (.builtin "type.__call__" ⟨[Value.ref S.book], []⟩)) (call (Value.ref (S.fn 0)) [Value.ref x])
      (fun r s' => r = .none ∧ QS S X [] f (PV S X) s ((F 0 [.ref σ.length] (σ ++ [.inst []])).bind (newEnd σ.length)) (.ref x) s')
      (ES S X [] f false s ((F 0 [.ref σ.length] (σ ++ [.inst []])).bind (newEnd σ.length))) { s with heap := h' } := fun h' x dx Mk => by
    have ex : Ext s { s with heap := h' } := ⟨rfl, Mk.keeps⟩
    obtain ⟨ob, hx, hcx, hncx, hdx⟩ := Mk.inst
    have hdd := Mk.dict ob hx
    obtain ⟨hne', hns⟩ : dx ≠ x ∧ h'.Ns1 dx fun _ => none := by
      rcases hdx with ⟨hn0, _⟩ | ⟨d', hd', hne', hns'⟩
      · rw [hn0] at hdd; first | exact zAA hdd | exact ff_tt hdd | cases hdd
      · obtain rfl := Option.some.inj (hd'.symm.trans hdd); exact ⟨hne', hns'⟩
    have hfr : Fresh [(x, some dx)] s := fun a ha => by
      rcases List.mem_cons.mp ha with rfl | ha
      · exact Mk.newX
      · obtain rfl := List.mem_singleton.mp ha; exact Mk.newD
    have L1 : Lk S ([x, dx] ++ X) f σ h' := L.enter (s₁ := { s with heap := h' }) Mk.keeps fun a ha => by
      rcases List.mem_cons.mp ha with rfl | ha
      · exact ⟨Mk.newX, ob, hx⟩
      · obtain rfl := List.mem_singleton.mp ha
        exact ⟨Mk.newD, let ⟨o, _, _, e, _⟩ := hns; ⟨o, e⟩⟩
    have hnX : ∀ a ∈ [x, dx], a ∉ X := fun a ha hX => by
      obtain ⟨o, e⟩ := (L.hid a hX).2.2
      rcases List.mem_cons.mp ha with rfl | ha
      · rw [Mk.newX] at e; first | exact zAA e | exact ff_tt e | cases e
      · obtain rfl := List.mem_singleton.mp ha; rw [Mk.newD] at e; cases e
    have L2 : Lk S X (f ++ [(x, some dx)]) (σ ++ [.inst []]) h' := Lk.track (l := (x, some dx)) L1 (List.nodup_cons.mpr ⟨fun h => hne' (List.mem_singleton.mp h).symm, List.nodup_cons.mpr ⟨fun h => (nomatch h), .nil⟩⟩) hnX
      ⟨ob, fun _ => none, hx, ⟨hcx, hdd, hncx, hne'⟩, hns, fun k x e => by simp at e, fun x v e => by simp at e, fun k e => by simp at e⟩
    have hlen : (f ++ [(x, some dx)])[σ.length]? = some (x, some dx) := by rw [← L.len]; simp
    have rx : VRs S X (f ++ [(x, some dx)]) h' [.ref σ.length] [.ref x] := by rw [VRs, VR, VRs]; exact ⟨⟨_, hlen, rfl⟩, trivial⟩
    have kp0 : Kp f [] s { s with heap := h' } := ex.kp _ _
    have cxc : CxC S (A.under (.builtin "type.__call__" ⟨[Value.ref S.book], []⟩)) q d (f ++ [(x, some dx)]) h' := by
      obtain ⟨e1, l, h1, _, h3⟩ := cx.frs
      refine ⟨?_, ?_, cx.hand, e1 :: l, ?_, h3.keep kp0 hfr⟩
      · have := cx.depth; show A.depth + 1 + 2 * d + 2 ≤ 900; omega
      · have := cx.units; show A.units + 1 + 5 * d + 200 ≤ 9900; omega
      · exact h1
    have hr : F 0 [.ref σ.length] (σ ++ [.inst []]) ≠ .stuck := fun e => hne (by rw [e]; rfl)
    obtain ⟨_, h3⟩ := FSs 0 [.ref σ.length] (σ ++ [.inst []]) _ X _ { s with heap := h' } [.ref x] cxc L2 rx hr
    refine wpAny_call (codeAny_mono h3 fun r s' hq => ?_)
    match r, hq with
    | .ok (.ret v), hq =>
      obtain ⟨b, σ'', g', e, hg', kp', L3, rv⟩ := hq
      rw [e] at hne ⊢
      have hb : b = .none := by cases b <;> first | rfl | exact absurd rfl hne
      subst hb
      have rv : v = .none := by have : VR _ _ _ _ _ _ := rv; rwa [VR] at this
      refine ⟨rv, .ref σ.length, σ'', (x, some dx) :: g', rfl, ?_, kp0.trans hfr kp', by rw [List.append_cons]; exact L3, ?_⟩
      · exact hfr.trans kp0.live hg'
      · show VR _ _ _ _ _ _
        rw [VR]
        exact ⟨(x, some dx), by rw [← L.len, List.append_cons, List.getElem?_append_left (by simp)]; simp, rfl⟩
    | .error e, hq =>
      obtain ⟨c, σ', g', ea, e1, e2, hg', kp', L3, xr⟩ := hq
      rw [e2]
      refine ⟨c, σ', (x, some dx) :: g', ea, e1, rfl, hfr.trans kp0.live hg', kp0.trans hfr kp', by rw [List.append_cons]; exact L3, ?_⟩
      rw [List.append_cons]
      exact xr.back fun a h => zAS kp0.live h
  obtain ⟨hh, gg, dr, tk, os⟩ := s
  exact wpAny_call_obj_init PySem.F.objNew (L.base _ _ hC) (L.ns hN) hini (L.base _ _ hof) hoc key
theorem zDC {β : Type} {k : Nat} {y : β} : ∀ {l : List (Nat × β)}, l.lookup k = some y → (k, y) ∈ l
  | (k', y') :: l, h => by
    rw [List.lookup_cons] at h
    split at h
    · rename_i e; cases h; rw [eq_of_beq e]; exact List.mem_cons_self
    · exact List.mem_cons_of_mem _ (zDC h)
theorem attr_or {n k : Nat} {ax dx : Addr} {ob o₁ : Obj} {mA : Str → Option Value} {as : List (Nat × V)} {v' : V} {vv : Value} {h' : Heap} (hk : k < 2) (hf : f[n]? = some (ax, some dx)) (e2 : ob.cls = .ref S.book ∧ ob.dict = some dx ∧ (∀ c, ob.data ≠ .cls c) ∧ dx ≠ ax)
    (e4 : ∀ k x, as.lookup k = some x → ∃ w, mA (attrName k) = some w ∧ VR S X f s.heap x w) (e5 : ∀ x v, mA x = some v → x = attrName 0 ∨ x = attrName 1) (e6 : ∀ k, k ∈ as.map (·.1) → k < 2) (rv : VR S X f s.heap v' vv)
    (hs : ∀ b o, b ∉ Loc.addrs (ax, some dx) → s.heap.get? b = some o → h'.get? b = some o) (w1 : h'.get? ax = some o₁) (w2 : o₁.cls = ob.cls) (w3 : o₁.data = ob.data) (w5 : o₁.dict = some dx)
    (hns : h'.Ns1 dx (fun y => if y = attrName k then some vv else mA y)) : OR S X f h' (ax, some dx) (.inst ((k, v') :: as)) := by
  have kv : ∀ x v, VR S X f s.heap x v → VR S X f h' x v := VR.keep (fun _ _ e => e) fun a o q h1 h2 => ⟨⟨h1, h2⟩, o, hs a o (fun z => h1 (zAX hf z)) q, .refl o⟩
  refine ⟨o₁, _, w1, ⟨w2.trans e2.1, w5, fun c => by rw [w3]; exact e2.2.2.1 c, e2.2.2.2⟩, hns, fun j x hj => ?_, fun y v hy => ?_, fun j hj => ?_⟩
  · rw [List.lookup_cons] at hj
    cases hjk : (j == k) with
    | true =>
      rw [hjk] at hj
      cases hj
      obtain rfl : j = k := eq_of_beq hjk
      exact ⟨vv, if_pos rfl, kv _ _ rv⟩
    | false =>
      rw [hjk] at hj
      obtain ⟨w, hw, hr⟩ := e4 j x hj
      refine ⟨w, ?_, kv _ _ hr⟩
      have hj2 : j < 2 := e6 j (List.mem_map_of_mem (f := (·.1)) (zDC hj))
      have hjn : attrName j ≠ attrName k := by
        have hne : j ≠ k := fun q => by rw [q] at hjk; simp at hjk
        clear hj hjk hr e4 e5 e6 hns
        match j, k, hj2, hk, hne with
        | 0, 0, _, _, h => exact absurd rfl h
        | 0, 1, _, _, _ => decide
        | 1, 0, _, _, _ => decide
        | 1, 1, _, _, h => exact absurd rfl h
      exact (if_neg hjn).trans hw
  · by_cases hyk : y = attrName k
    · clear hy hns e4
      match k, hk, hyk with
      | 0, _, h => exact .inl h
      | 1, _, h => exact .inr h
    · exact e5 y v ((if_neg hyk).symm.trans hy)
  · rcases List.mem_cons.mp hj with rfl | hj
    · exact hk
    · exact e6 j hj
theorem setAttr_at (B : BookAt S C) {n k : Nat} {vo vv : Value} {v' : V} {as : List (Nat × V)} {Q : Unit → Shared → Prop} (hk : k < 2) (L : Lk S X f σ s.heap) (ro : VR S X f s.heap (.ref n) vo) (hσ : σ[n]? = some (.inst as)) (rv : VR S X f s.heap v' vv)
    (h : ∀ h' tk, Lk S X f (σ.set n (.inst ((k, v') :: as))) h' → (∀ Y, Kp f Y s { s with heap := h', toks := tk }) → Q () { s with heap := h', toks := tk }) : wpAny (model S.prog S.w) A (setAttr vo (attrName k) vv) Q E s := by
  obtain ⟨N, mN, nm, qn, bs, sn, sub, col, dd, k0, k1, k2, k3, k5, hC, hN, hqt, _⟩ := B
  obtain ⟨ax, dx, ob, mA, rfl, hf, e1, e2, e3, e4, e5, e6, I⟩ := zGz L ro hσ
  have hna : mN (attrName k) = none := by
    match k, hk with
    | 0, _ => exact hqt.2.2.2.1
    | 1, _ => exact hqt.2.2.2.2
  have hB : typeLookup (.type "object") (attrName k) = pure none := by
    match k, hk with
    | 0, _ => exact zFl
    | 1, _ => exact zFk
  have hxC : ax ≠ S.book := fun z => by
    have h1 := L.fresh ax (zAX hf List.mem_cons_self)
    rw [z, hC] at h1; cases h1
  have hsz : ([attrName 0, attrName 1] : List Str).length ≤ sizeLine := by show 2 ≤ sizeLine; decide
  have hw : Within mA [attrName 0, attrName 1] := fun y hy => by
    obtain ⟨v, hv⟩ := Option.ne_none_iff_exists'.mp hy
    rcases e5 y v hv with rfl | rfl
    · exact List.mem_cons_self
    · exact List.mem_cons_of_mem _ (List.mem_singleton.mpr rfl)
  have fin : ∀ h' tk', h'.Inst ax S.book (fun y => if y = attrName k then some vv else mA y) →
      (∀ b o, b ≠ ax → (∀ o₀ d', s.heap.get? ax = some o₀ → o₀.dict = some d' → b ≠ d') → s.heap.get? b = some o → h'.get? b = some o) →
      (∀ o₀, s.heap.get? ax = some o₀ → ∃ o₁, h'.get? ax = some o₁ ∧ o₁.cls = o₀.cls ∧ o₁.data = o₀.data ∧ o₁.slots = o₀.slots ∧ ∀ d', o₀.dict = some d' → o₁.dict = some d') → Q () { s with heap := h', toks := tk' } := fun h' tk' I' hkeep hsame => by
    have hs' : ∀ b o, b ∉ Loc.addrs (ax, some dx) → s.heap.get? b = some o → h'.get? b = some o := fun b o hb e =>
      hkeep b o (fun z => hb (by rw [z]; exact List.mem_cons_self)) (fun o₀ d' q1 q2 z => hb (by
        rw [e1] at q1; cases q1; rw [e2.2.1] at q2; cases q2
        rw [z]; exact List.mem_cons_of_mem _ (List.mem_singleton.mpr rfl))) e
    obtain ⟨o₁, w1, w2, w3, _, w5⟩ := hsame ob e1
    obtain ⟨o', q1, q2, q3, q4⟩ := I'
    rw [w1] at q1; cases q1
    have hns : h'.Ns1 dx (fun y => if y = attrName k then some vv else mA y) := by
      rcases q4 with ⟨q5, _⟩ | ⟨d', q5, _, q6⟩
      · rw [w5 dx e2.2.1] at q5; first | exact zAA q5 | exact ff_tt q5 | cases q5
      · rw [w5 dx e2.2.1] at q5; cases q5; exact q6
    have hlive : ∀ b ∈ Loc.addrs (ax, some dx), ∃ o, h'.get? b = some o := fun b hb => by
      rcases List.mem_cons.mp hb with rfl | hb
      · exact ⟨_, w1⟩
      · rw [List.mem_singleton.mp hb]; exact let ⟨o, _, _, e, _⟩ := hns; ⟨o, e⟩
    exact h h' tk' (L.upd hf hs' (attr_or hk hf e2 e4 e5 e6 rv hs' w1 w2 w3 (w5 dx e2.2.1) hns)) fun Y => Kp.upd hf hs' hlive
  have L1 := L.base _ _ hC
  have L2 := L.ns hN
  clear e4 e5 e6 e3 h ro rv L
  obtain ⟨hh, gg, dr, tk, os⟩ := s
  exact store_attr PySem.F.store_object L1 L2 hqt.2.2.1 hna hB hxC I fin hw hsz
theorem ok_setAttr (fs : Facts S C T) {o e : Expr} {a c : CE} {m : Str} {k : Nat} {p' pos : Pos} (hm : C.attrs.lookup m = some k) (ho : EOk S F q d Γ sc o a) (h : EOk S F q d Γ sc e c) (hs : ∀ env n t, swapsWith e t n env = pure false) :
    SOk S F Fq q d Γ sc (.Assign [.Attribute o m p'] e pos) (.setAttr a k c) := fun env ρ f X σ s A st fw hne => by
  rw [zFV] at hne ⊢
  rcases fs.book with ⟨_, _, h0⟩ | ⟨hat, B⟩
  · rw [h0] at hm; first | exact zAA hm | exact ff_tt hm | cases hm
  rw [hat] at hm
  obtain ⟨hk, rfl⟩ := zFB hm
  refine plainObj_wpAny_Assign_Attribute ?_ (hs _ _ _)
  refine Sim.goS (Γ := Γ) (sc := sc) (h env ρ f X σ s A st) hne (fun _ _ x => x) (fun _ _ x => x) fun vv v' σ₁ g₁ s₁ hne hg kk L rv hQ hE => ?_
  have st₁ := st.keep hg kk L
  refine Sim.goS (Γ := Γ) (sc := sc) (ho env ρ _ X σ₁ s₁ A st₁) hne hQ hE fun vo o' σ₂ g₂ s₂ hne hg₂ k₂ L₂ ro hQ hE => ?_
  have st₂ := st₁.keep hg₂ k₂ L₂
  have rv₂ := VR.keepK k₂ hg₂ (fun _ h => nomatch h) rv
  cases o' with
  | ref n =>
    have hd0 : doSetAttr σ₂ (.ref n) k v' = setAttrO σ₂ n k v' σ₂[n]? := rfl
    rw [hd0] at hne hQ
    cases hσ : σ₂[n]? with
    | none => rw [hσ] at hne; exact absurd rfl hne
    | some obj =>
      rw [hσ] at hne hQ
      cases obj with
      | inst as =>
        have hd : setAttrO σ₂ n k v' (some (.inst as)) = .ok () (σ₂.set n (.inst ((k, v') :: as))) := if_pos hk
        rw [hd] at hQ
        refine setAttr_at B hk L₂ ro hσ rv₂ fun h' tk L3 kp3 => hQ _ _ ⟨.next ρ, _, [], rfl, .nil _, kp3 _, by rw [List.append_nil]; exact L3, rfl, ?_⟩
        have := st₂.fr.keep (g := []) st₂.lk (kp3 []) (.nil _)
        exact this
      | _ => exact absurd rfl hne
  | _ => exact absurd rfl hne
end
end Mine
end

/-! # ExprD -/
section
set_option autoImplicit false
namespace Mine
open PySem PyProof.Rows
section
variable {S : Stat} {C : Ctx} {T : Nat → Option Fn} {F Fq : Calls} {q : Bool} {d : Nat} {Γ : List Str} {sc : Scope}
variable {X X' Y Z : List Addr} {f g : List Loc} {σ : Sto} {s s' : Shared} {A : Around} {E : Value → Shared → Prop} {env : Env} {ρ : List V}
theorem dict_new (L : Lk S X f σ s.heap) : Ext s { s with heap := s.heap.push { cls := .type "dict", data := .dict #[] } } ∧ Fresh [(s.heap.objs.size, none)] s ∧
    Lk S X (f ++ [(s.heap.objs.size, none)]) (σ ++ [.dict []]) (s.heap.push { cls := .type "dict", data := .dict #[] }) := by
  have hn : s.heap.get? s.heap.objs.size = none := Heap.get?_none_of_le (Nat.le_refl _)
  have hl : (s.heap.push { cls := .type "dict", data := .dict #[] }).get? s.heap.objs.size = some { cls := .type "dict", data := .dict #[] } := Heap.get?_push_size _ rfl
  have ex : Ext s { s with heap := s.heap.push { cls := .type "dict", data := .dict #[] } } := ⟨rfl, fun b o e => Heap.get?_push_of_some _ e⟩
  refine ⟨ex, fun a ha => by rw [List.mem_singleton.mp ha]; exact hn, ?_⟩
  have L1 : Lk S (s.heap.objs.size :: X) f σ (s.heap.push { cls := .type "dict", data := .dict #[] }) := L.hideNew ex hn hl
  exact Lk.track (l := (s.heap.objs.size, none)) L1 (List.nodup_cons.mpr ⟨fun h => (nomatch h), .nil⟩) (fun a ha hX => by
    rw [List.mem_singleton.mp ha] at hX
    obtain ⟨o, e⟩ := (L.hid _ hX).2.2
    rw [hn] at e; cases e) ⟨[], Heap.DictOf.new _, rfl, by rw [List.map_nil, List.map_nil, VRs]; trivial, Nat.zero_le _⟩
theorem ok_dict0 {pos : Pos} : EOk S F q d Γ sc (.Dict [] [] pos) .dict0 := fun env ρ f X σ s A st hne => by
  rw [x_dict0]
  obtain ⟨ex, hg, L⟩ := dict_new st.lk
  refine wpAny_Dict_empty ⟨.ref σ.length, _, _, rfl, hg, ex.kp _ _, L, ?_⟩
  show VR _ _ _ _ _ _
  rw [VR]
  exact ⟨(s.heap.objs.size, none), by rw [← st.lk.len]; simp, rfl⟩
theorem ok_dict1 {k v : Expr} {a b : CE} {pos : Pos} (hk : EOk S F q d Γ sc k a) (hv : EOk S F q d Γ sc v b) : EOk S F q d Γ sc (.Dict [some k] [v] pos) (.dict1 a b) := fun env ρ f X σ s A st hne => by
  rw [x_dict1] at hne ⊢
  obtain ⟨ex, hg, L⟩ := dict_new st.lk
  have kp0 := ex.kp f []
  have st0 := st.keep hg kp0 L
  have hlen : (f ++ [(s.heap.objs.size, none)])[σ.length]? = some (s.heap.objs.size, none) := by rw [← st.lk.len]; simp
  refine wpAny_Dict_pairs (knd := intKind S.prog S.w) (pairs := [(eval k env, do let x ← eval v env; standAt pos; pure x)]) rfl (by simp) (by show 1 ≤ 15; decide) ?_
  refine evalPairs_cons ?_
  refine Sim.goQ (P' := PV S X) (hk env ρ _ X _ _ A st0) hne (fun c s'' x => QS.lifts f _ s _ _ c s'' hg kp0 x) (fun c s'' x => ES.lifts f _ s _ _ c s'' hg kp0 x) fun vk k' σ₁ g₁ s₁ hne hg₁ k₁ L₁ rk hQ hE => ?_
  have st₁ := st0.keep hg₁ k₁ L₁
  refine wpAny_bind (Sim.goQ (P' := PV S X) (hv env ρ _ X σ₁ s₁ A st₁) hne hQ hE fun vv v' σ₂ g₂ s₂ hne hg₂ k₂ L₂ rv hQ hE => wpAny_bind (wpAny_standAt (wpAny_pure (evalPairs_nil ?_))))
  have hf₂ : (f ++ [(s.heap.objs.size, none)] ++ g₁ ++ g₂)[σ.length]? = some (s.heap.objs.size, none) := by
    have h1 : σ.length < (f ++ [(s.heap.objs.size, none)]).length := (List.getElem?_eq_some_iff.mp hlen).1
    rw [List.append_assoc, List.getElem?_append_left h1]; exact hlen
  cases k' with
  | int ki =>
    have hd0 : doDict1 σ.length σ₂ (.int ki) v' = dict1O σ.length σ₂ ki v' σ₂[σ.length]? := rfl
    rw [hd0] at hne hQ
    cases hσ : σ₂[σ.length]? with
    | none => rw [hσ] at hne; exact absurd rfl hne
    | some ob =>
      rw [hσ] at hne hQ
      cases ob with
      | dict es =>
        cases es with
        | nil =>
          obtain ⟨kvs, hd, e1, _⟩ := dict_at L₂ hf₂ hσ
          obtain rfl : kvs = [] := List.map_eq_nil_iff.mp e1
          obtain ⟨t, rfl⟩ := zAU rk
          refine ⟨[(ki, vv)], ⟨by show Value.isInt ki (.int ki t) = true; simp [Value.isInt], rfl, trivial⟩, hd, fun h' hd' hs => ?_⟩
          have hd' : h'.DictOf (intKind S.prog S.w) s.heap.objs.size [(ki, vv)] := hd'
          obtain ⟨L3, k3⟩ := zHY (es' := [(ki, v')]) (t := s₂.toks + 1) L₂ hf₂ hs hd' rfl (by rw [List.map_cons, List.map_nil, List.map_cons, List.map_nil, VRs, VRs]; exact ⟨rv, trivial⟩) (by show 1 ≤ 1048576; decide)
          refine hQ _ _ ⟨.ref σ.length, _, [], rfl, .nil _, k3 [], by rw [List.append_nil]; exact L3, ?_⟩
          show VR _ _ _ _ _ _
          rw [VR, List.append_nil]
          exact ⟨_, hf₂, rfl⟩
        | cons _ _ => exact absurd rfl hne
      | _ => exact absurd rfl hne
  | _ => exact absurd rfl hne
end
end Mine
end

/-! # Sound -/
section
set_option autoImplicit false
namespace Mine
open PySem PyProof.Rows
section
variable {S : Stat} {C : Ctx} {T : Nat → Option Fn} {F Fq : Calls} {q : Bool} {d : Nat}
theorem GOk.of {Γ : List Str} {sc : Scope} {e : Expr} {c : CE} (h : EOk S F q d Γ sc e c) (he : ∀ env whole, isTrue e env whole = (do let v ← whole; standAt e.pos; holding [v] (PySem.truthy v))) (hs : isStar e = false) (hm : ∀ op, behindInMarks op e = false) (hf : ∀ env x, foldedSetIterable e env x = pure x) : GOk S F q d Γ sc e c :=
  ⟨h, .plain h he, hs, hm, hf⟩
theorem mapM_all2 {ops : List CmpOp} {os : List P2} (h : ops.mapM cmpOf = some os) : All2 (fun op o => cmpOf op = some o) ops os := by
  induction ops generalizing os with
  | nil => simp at h; subst h; exact .nil
  | cons op ops ih =>
    simp only [List.mapM_cons] at h
    cases h1 : cmpOf op with
    | none => first | (rw [h1] at h; exact zAA h) | simp [h1] at h
    | some o =>
      cases h2 : ops.mapM cmpOf with
      | none => first | (rw [h1, h2] at h; exact zAA h) | (rw [h1, Option.bind_some, h2] at h; exact zAA h) | simp [h1, h2] at h
      | some os' =>
        simp [h1, h2] at h
        subst h
        exact .cons h1 (ih h2)
structure Clean (C : Ctx) : Prop where
  dbg : C.fns.lookup ("__debug__" : Str) = none
  isin : C.fns.lookup ("isinstance" : Str) = none
  rng : C.fns.lookup ("range" : Str) = none
theorem Clean.nd (cl : Clean C) {x : Str} {n : Nat} (h : C.fns.lookup x = some n) : (x == ("__debug__" : Str)) = false := by
  cases e : (x == ("__debug__" : Str)) with
  | false => rfl
  | true => rw [eq_of_beq e, cl.dbg] at h; first | exact zAA h | exact ff_tt h | cases h
theorem g_name (fs : Facts S C T) {Γ : List Str} {sc : Scope} {x : Str} {pos : Pos} {c : CE} (h : cName C Γ sc x = some c) : GOk S F q d Γ sc (.Name x pos) c :=
  .of (ok_name fs h) (fun _ _ => rfl) rfl (fun _ => rfl) fun _ _ => rfl
theorem zBX {Γ : List Str} {sc : Scope} {f : Expr} {es : List Expr} {pos : Pos} {c : CE} (h : EOk S F q d Γ sc (.Call f es [] pos) c) : GOk S F q d Γ sc (.Call f es [] pos) c :=
  .of h (fun _ _ => rfl) rfl (fun _ => rfl) fun _ _ => rfl
theorem g_sub {Γ : List Str} {sc : Scope} {o i : Expr} {pos : Pos} {c : CE} (h : EOk S F q d Γ sc (.Subscript o i pos) c) : GOk S F q d Γ sc (.Subscript o i pos) c :=
  .of h (fun _ _ => rfl) rfl (fun _ => rfl) fun _ _ => rfl
noncomputable def IfOk (S : Stat) (F : Calls) (q : Bool) (d : Nat) (Γ : List Str) (sc : Scope) (ifs : List Expr) (cond : Option CE) : Prop := (ifs = [] ∧ cond = none) ∨ ∃ e c, ifs = [e] ∧ cond = some c ∧ TOk S F q d Γ sc e c
noncomputable def OptOk (S : Stat) (F : Calls) (q : Bool) (d : Nat) (Γ : List Str) (sc : Scope) (o : Option Expr) (c : Option CE) : Prop := (o = none ∧ c = none) ∨ ∃ e' c', o = some e' ∧ c = some c' ∧ EOk S F q d Γ sc e' c'
section
variable {rec : List Str → Scope → Expr → Option CE}
theorem cL_ok (hr : ∀ Γ sc e c, rec Γ sc e = some c → GOk S F q d Γ sc e c) {Γ : List Str} {sc : Scope} : ∀ {es : List Expr} {cs : List CE}, cL rec Γ sc es = some cs → All2 (GOk S F q d Γ sc) es cs
  | [], cs, h => by cases h; exact .nil
  | e :: es, cs, h => by
    unfold cL at h
    split at h
    · first | exact zAA h | exact ff_tt h | cases h
    · simp only [Option.bind_eq_some_iff, Option.map_eq_some_iff] at h
      obtain ⟨a, ha, as, has, rfl⟩ := h
      exact .cons (hr Γ sc e a ha) (cL_ok hr has)
theorem cOpt_ok (hr : ∀ Γ sc e c, rec Γ sc e = some c → GOk S F q d Γ sc e c) {Γ : List Str} {sc : Scope} {o : Option Expr} {c : Option CE} (h : cOpt rec Γ sc o = some c) : OptOk S F q d Γ sc o c := by
  cases o with
  | none => cases h; exact .inl ⟨rfl, rfl⟩
  | some e =>
    have h : (rec Γ sc e).map some = some c := h
    simp only [Option.map_eq_some_iff] at h
    obtain ⟨a, ha, rfl⟩ := h
    exact .inr ⟨e, a, rfl, rfl, (hr Γ sc e a ha).eo⟩
theorem cIf_ok (hr : ∀ Γ sc e c, rec Γ sc e = some c → GOk S F q d Γ sc e c) {Γ : List Str} {sc : Scope} {o : List Expr} {c : Option CE} (h : cIf rec Γ sc o = some c) : IfOk S F q d Γ sc o c := by
  match o, h with
  | [], h => cases h; exact .inl ⟨rfl, rfl⟩
  | [e], h =>
    have h : (rec Γ sc e).map some = some c := h
    simp only [Option.map_eq_some_iff] at h
    obtain ⟨a, ha, rfl⟩ := h
    exact .inr ⟨e, a, rfl, rfl, (hr Γ sc e a ha).to⟩
  | _ :: _ :: _, h => cases h
theorem cConst_ok {Γ : List Str} {sc : Scope} {k : Const} {n : Nat} {pos : Pos} {c : CE} (h : cConst k = some c) : GOk S F q d Γ sc (.Constant k n pos) c := by
  cases k with
  | none => cases h; exact .of ok_none (fun _ _ => rfl) rfl (fun _ => rfl) fun _ _ => rfl
  | bool b => cases h; exact .of ok_bool (fun _ _ => rfl) rfl (fun _ => rfl) fun _ _ => rfl
  | int i => cases h; exact .of ok_int (fun _ _ => rfl) rfl (fun _ => rfl) fun _ _ => rfl
  | str s =>
    simp only [cConst] at h
    split at h
    · rename_i hs; cases h; exact .of (ok_str hs) (fun _ _ => rfl) rfl (fun _ => rfl) fun _ _ => rfl
    · first | exact zAA h | exact ff_tt h | cases h
  | _ => first | exact zAA h | exact ff_tt h | cases h
theorem cCmp_ok (fs : Facts S C T) (hr : ∀ Γ sc e c, rec Γ sc e = some c → GOk S F q d Γ sc e c) {Γ : List Str} {sc : Scope} {a : Expr} {ops : List CmpOp} {cs : List Expr} {pos : Pos} {c : CE} (h : cCmp rec Γ sc a ops cs = some c) : GOk S F q d Γ sc (.Compare a ops cs pos) c := by
  unfold cCmp at h
  split at h
  · first | exact zAA h | exact ff_tt h | cases h
  rename_i hlen
  have hlen : ops.length = cs.length := by simpa using hlen
  split at h
  · simp only [Option.bind_eq_some_iff, Option.map_eq_some_iff] at h
    obtain ⟨o, ho, x, hx, y, hy, rfl⟩ := h
    have g2 := hr Γ sc _ y hy
    have g := ok_cmp (pos := pos) fs ho (g2.marks _) (hr Γ sc a x hx).eo g2.eo
    exact ⟨g, .cmp1 (g2.marks _) g, rfl, fun _ => rfl, fun _ _ => rfl⟩
  · simp only [Option.bind_eq_some_iff, Option.map_eq_some_iff] at h
    obtain ⟨os, ho, x, hx, ys, hy, rfl⟩ := h
    have g := ok_chain (pos := pos) fs (hr Γ sc a x hx).eo (mapM_all2 ho) (cL_ok hr hy) hlen
    exact ⟨g.1, g.2, rfl, fun _ => rfl, fun _ _ => rfl⟩
theorem cSrc_ok (fs : Facts S C T) (cl : Clean C) (hr : ∀ Γ sc e c, rec Γ sc e = some c → GOk S F q d Γ sc e c) {Γ : List Str} {sc : Scope} {e : Expr} {k : SK} {cs : List CE} (h : cSrc rec Γ sc e = some (k, cs)) : SrcOk S F q d Γ sc e k cs := by
  have hv : Option.map (fun a => (SK.val, [a])) (rec Γ sc e) = some (k, cs) → SrcOk S F q d Γ sc e k cs := fun h => by
    simp only [Option.map_eq_some_iff] at h
    obtain ⟨a, ha, e'⟩ := h
    cases e'
    exact src_val (hr Γ sc e a ha)
  unfold cSrc at h
  split at h
  · rename_i fn args kws hc
    obtain ⟨pc, rfl⟩ := callParts?_eq hc
    split at h
    · rename_i f hn
      obtain ⟨p, rfl⟩ := nameOf?_eq hn
      split at h
      · rename_i hf
        obtain rfl := eq_of_beq hf
        split at h
        · rename_i hg
          simp only [Bool.and_eq_true, List.isEmpty_iff] at hg
          obtain ⟨hg, rfl⟩ := hg
          simp only [Option.bind_eq_some_iff] at h
          obtain ⟨es, hes, h⟩ := h
          have ga := cL_ok hr hes
          split at h
          · cases h; exact src_range fs hg cl.rng ga (.inl ⟨rfl, rfl⟩)
          · first | exact zAA h | exact ff_tt h | cases h
        · first | exact zAA h | exact ff_tt h | cases h
      · exact hv h
    · exact hv h
  · exact hv h
theorem cComp_ok (fs : Facts S C T) (cl : Clean C) (hr : ∀ Γ sc e c, rec Γ sc e = some c → GOk S F q d Γ sc e c) {Γ : List Str} {sc scope : Scope} {elt : Expr} {gens : List Comprehension} {c : CE} (h : cComp rec Γ sc elt gens scope = some c) :
    ∃ x px iter ifs ce cond k cs, gens = [⟨.Name x px, iter, ifs, 0⟩] ∧ CompOk Γ sc scope x ∧ SrcOk S F q d Γ sc iter k cs ∧ IfOk S F q d (Γ ++ [x]) scope ifs cond ∧ EOk S F q d (Γ ++ [x]) scope elt ce ∧ c = .comp ce k cs cond := by
  unfold cComp at h
  split at h
  · rename_i g
    obtain ⟨tgt, iter, ifs, n⟩ := g
    simp only [Option.bind_eq_some_iff] at h
    obtain ⟨x, hx, h⟩ := h
    obtain ⟨px, rfl⟩ := nameOf?_eq hx
    split at h
    · first | exact zAA h | exact ff_tt h | cases h
    · rename_i hok
      simp only [Bool.or_eq_true, not_or, Bool.not_eq_true, bne_eq_false_iff_eq, Bool.not_eq_false'] at hok
      obtain ⟨rfl, hok⟩ := hok
      simp only [Option.bind_eq_some_iff, Option.map_eq_some_iff] at h
      obtain ⟨⟨k, cs⟩, h1, cond, h2, ce, h3, rfl⟩ := h
      exact ⟨x, px, iter, ifs, ce, cond, k, cs, rfl, compOk_of hok, cSrc_ok fs cl hr h1, cIf_ok hr h2, (hr _ scope elt ce h3).eo, rfl⟩
  · first | exact zAA h | exact ff_tt h | cases h
theorem cSub_ok (fs : Facts S C T) (hr : ∀ Γ sc e c, rec Γ sc e = some c → GOk S F q d Γ sc e c) {Γ : List Str} {sc : Scope} {o i : Expr} {pos : Pos} {c : CE} (h : cSub C rec Γ sc o i pos = some c) : GOk S F q d Γ sc (.Subscript o i pos) c := by
  unfold cSub at h
  split at h
  · rename_i lo hi hs
    obtain ⟨p, rfl⟩ := sliceParts?_eq hs
    simp only [Option.bind_eq_some_iff, Option.map_eq_some_iff] at h
    obtain ⟨a, ha, l, hl, u, hu, rfl⟩ := h
    exact g_sub (zBw (ok_slice (hr Γ sc o a ha).eo (cOpt_ok hr hl) (cOpt_ok hr hu)))
  · simp only [Option.bind_eq_some_iff, Option.map_eq_some_iff] at h
    obtain ⟨a, ha, b, hb, rfl⟩ := h
    exact g_sub (ok_index fs (hr Γ sc o a ha).eo (hr Γ sc i b hb).eo)
theorem cMethB_ok (hr : ∀ Γ sc e c, rec Γ sc e = some c → GOk S F q d Γ sc e c) {Γ : List Str} {sc : Scope} {o : Expr} {m : Str} {apos pos : Pos} {args : List Expr} {c : CE} (h1 : noSuper o = true) (h2 : (apos.endLine == pos.line) = true) (h : cMethB rec Γ sc o m args = some c) : GOk S F q d Γ sc (.Call (.Attribute o m apos) args [] pos) c := by
  unfold cMethB at h
  split at h
  · split at h
    · first | exact zAA h | exact ff_tt h | cases h
    rename_i hx
    split at h
    · rename_i hm
      simp only [Option.bind_eq_some_iff, Option.map_eq_some_iff] at h
      obtain ⟨a, ha, b, hb, rfl⟩ := h
      obtain rfl := eq_of_beq hm
      exact zBX (ok_append h1 h2 (by simpa using hx) (hr Γ sc o a ha).eo (hr Γ sc _ b hb).eo)
    · simp only [Option.bind_eq_some_iff, Option.map_eq_some_iff] at h
      obtain ⟨p, hp, a, ha, b, hb, rfl⟩ := h
      exact zBX (ok_sm hp h1 h2 (by simpa using hx) (hr Γ sc o a ha).eo (hr Γ sc _ b hb).eo)
  · split at h
    · rename_i hm
      obtain ⟨a, ha, rfl⟩ := Option.map_eq_some_iff.mp h
      obtain rfl := eq_of_beq hm
      exact zBX (ok_pop h1 h2 (hr Γ sc o a ha).eo)
    exact zAA h
  · first | exact zAA h | exact ff_tt h | cases h
theorem cMeth_ok (fs : Facts S C T) (FSs : FS S F q d) (hr : ∀ Γ sc e c, rec Γ sc e = some c → GOk S F q d Γ sc e c) {Γ : List Str} {sc : Scope} {o : Expr} {m : Str} {apos pos : Pos} {args : List Expr} {c : CE} (hlen : args.length ≤ 20) (h : cMeth C rec Γ sc o m apos args pos = some c) : GOk S F q d Γ sc (.Call (.Attribute o m apos) args [] pos) c := by
  unfold cMeth at h
  split at h
  · first | exact zAA h | exact ff_tt h | cases h
  rename_i hc
  simp only [Bool.or_eq_true, not_or, Bool.not_eq_true, Bool.not_eq_false', bne_eq_false_iff_eq] at hc
  have h1 : noSuper o = true := by simpa using hc.1
  have h2 : (apos.endLine == pos.line) = true := by simpa using hc.2
  split at h
  · rename_i n hn
    simp only [Option.bind_eq_some_iff, Option.map_eq_some_iff] at h
    obtain ⟨a, ha, es, hes, rfl⟩ := h
    exact zBX (ok_callm fs FSs hn h1 h2 hlen (hr Γ sc o a ha).eo (cL_ok hr hes))
  · exact cMethB_ok hr h1 h2 h
theorem cFun_ok (fs : Facts S C T) (FSs : FS S F q d) (cl : Clean C) (hr : ∀ Γ sc e c, rec Γ sc e = some c → GOk S F q d Γ sc e c) {Γ : List Str} {sc : Scope} {f : Str} {args : List Expr} {p pos : Pos} {c : CE} (h : cFun C rec Γ sc f args pos = some c) : GOk S F q d Γ sc (.Call (.Name f p) args [] pos) c := by
  unfold cFun at h
  split at h
  · first | exact zAA h | exact ff_tt h | cases h
  rename_i hg
  have hg : isGlob sc f = true := by simpa using hg
  split at h
  · rename_i hf
    obtain rfl := eq_of_beq hf
    unfold cIsinst at h
    split at h
    · split at h
      · first | exact zAA h | exact ff_tt h | cases h
      rename_i hx
      simp only [Option.bind_eq_some_iff] at h
      obtain ⟨kn, hkn, h⟩ := h
      obtain ⟨pk, rfl⟩ := nameOf?_eq hkn
      split at h
      · rename_i hgk
        split at h
        · rename_i kd hk
          obtain ⟨a, ha, rfl⟩ := Option.map_eq_some_iff.mp h
          exact zBX (ok_isinst fs hg cl.isin hk hgk (by simpa using hx) (hr Γ sc _ a ha).eo)
        · obtain ⟨kc, hkc, h⟩ := Option.bind_eq_some_iff.mp h
          obtain ⟨a, ha, rfl⟩ := Option.map_eq_some_iff.mp h
          exact zBX (zGq fs hg cl.isin hkc (by simpa using hx) (hr Γ sc _ a ha).eo)
      · first | exact zAA h | exact ff_tt h | cases h
    · first | exact zAA h | exact ff_tt h | cases h
  · simp only [Option.bind_eq_some_iff] at h
    obtain ⟨es, hes, h⟩ := h
    have ga := cL_ok hr hes
    split at h
    · rename_i n hn
      cases h
      exact zBX (ok_call fs FSs hg (cl.nd hn) hn ga)
    · rename_i hn
      split at h
      · rename_i hbk
        simp only [Bool.and_eq_true] at hbk
        obtain rfl := eq_of_beq hbk.2
        split at h
        · rename_i hem
          cases h
          have hnil : es = [] := List.isEmpty_iff.mp hem
          subst hnil
          cases ga
          exact zBX (ok_new fs FSs hbk.1 hg)
        · first | exact zAA h | exact ff_tt h | cases h
      split at h
      · simp only [Option.map_eq_some_iff] at h
        obtain ⟨o, ho, h⟩ := h
        cases ga with
        | cons g1 gs =>
          cases gs
          split at h
          · subst h; exact zBX (zBw (ok_b1 fs hg hn ho g1))
          · subst h; exact zBX (ok_b1 fs hg hn ho g1).eok
      · simp only [Option.map_eq_some_iff] at h
        obtain ⟨o, ho, rfl⟩ := h
        cases ga with
        | cons g1 gs =>
          cases gs with
          | cons g2 gs =>
            cases gs
            exact zBX (ok_b2 fs hg hn ho g1.star g2.star g1.eo g2.eo)
      · first | exact zAA h | exact ff_tt h | cases h
theorem cCall_ok (fs : Facts S C T) (FSs : FS S F q d) (cl : Clean C) (hr : ∀ Γ sc e c, rec Γ sc e = some c → GOk S F q d Γ sc e c) {Γ : List Str} {sc : Scope} {fn : Expr} {args : List Expr} {kws : List Keyword} {pos : Pos} {c : CE} (h : cCall C rec Γ sc fn args kws pos = some c) : GOk S F q d Γ sc (.Call fn args kws pos) c := by
  unfold cCall at h
  split at h
  · first | exact zAA h | exact ff_tt h | cases h
  rename_i hk
  simp only [Bool.or_eq_true, not_or, Bool.not_eq_true, Bool.not_eq_false', List.isEmpty_iff] at hk
  obtain ⟨rfl, hk⟩ := hk
  split at h
  · rename_i o m apos ha
    obtain rfl := attrParts?_eq ha
    exact cMeth_ok fs FSs hr (by simpa using hk) h
  · simp only [Option.bind_eq_some_iff] at h
    obtain ⟨f, hf, h⟩ := h
    obtain ⟨p, rfl⟩ := nameOf?_eq hf
    exact cFun_ok fs FSs cl hr h
theorem cDict_ok (hr : ∀ Γ sc e c, rec Γ sc e = some c → GOk S F q d Γ sc e c) {Γ : List Str} {sc : Scope} {ks : List (Option Expr)} {vs : List Expr} {pos : Pos} {c : CE} (h : cDict rec Γ sc ks vs = some c) : GOk S F q d Γ sc (.Dict ks vs pos) c := by
  cases vs with
  | nil =>
    cases ks with
    | nil => cases h; exact .of ok_dict0 (fun _ _ => rfl) rfl (fun _ => rfl) fun _ _ => rfl
    | cons _ _ => first | exact zAA h | exact ff_tt h | cases h
  | cons v vs =>
    cases vs with
    | cons _ _ => first | exact zAA h | exact ff_tt h | cases h
    | nil =>
      match ks, h with
      | [], h => cases h
      | _ :: _ :: _, h => cases h
      | [none], h => cases h
      | [some k], h =>
        have h : ((rec Γ sc k).bind fun a => (rec Γ sc v).map fun b => CE.dict1 a b) = some c := h
        obtain ⟨a, ha, h⟩ := Option.bind_eq_some_iff.mp h
        obtain ⟨b, hb, rfl⟩ := Option.map_eq_some_iff.mp h
        exact .of (ok_dict1 (hr Γ sc _ a ha).eo (hr Γ sc _ b hb).eo) (fun _ _ => rfl) rfl (fun _ => rfl) fun _ _ => rfl
theorem stepE_ok (fs : Facts S C T) (FSs : FS S F q d) (cl : Clean C) (hr : ∀ Γ sc e c, rec Γ sc e = some c → GOk S F q d Γ sc e c) {Γ : List Str} {sc : Scope} {e : Expr} {c : CE} (h : stepE C rec Γ sc e = some c) : GOk S F q d Γ sc e c := by
  cases e with
  | Constant k n pos => exact cConst_ok h
  | Name x pos => exact g_name fs h
  | BoolOp op vs pos =>
    have h : ((cL rec Γ sc vs).bind fun es => foldBool (op == .And) es) = some c := h
    simp only [Option.bind_eq_some_iff] at h
    obtain ⟨es, h1, h2⟩ := h
    have := ok_bools (pos := pos) (cL_ok hr h1) h2
    exact ⟨this.1, this.2, rfl, fun _ => rfl, fun _ _ => rfl⟩
  | BinOp l op r pos =>
    have h : ((binOf op).bind fun o => (rec Γ sc l).bind fun a => (rec Γ sc r).map fun b => trkAt C pos (.p2 o a b)) = some c := h
    simp only [Option.bind_eq_some_iff, Option.map_eq_some_iff] at h
    obtain ⟨o, ho, a, ha, b, hb, rfl⟩ := h
    exact .of (zBw (ok_BinOp ho (hr Γ sc l a ha).eo (hr Γ sc r b hb).eo)) (fun _ _ => rfl) rfl (fun _ => rfl) fun _ _ => rfl
  | UnaryOp op x pos =>
    cases op with
    | Not =>
      have h : (rec Γ sc x).map (.p1 .not) = some c := h
      simp only [Option.map_eq_some_iff] at h
      obtain ⟨a, ha, rfl⟩ := h
      have g := hr Γ sc x a ha
      exact ⟨ok_not g.eo, g.to.not, rfl, fun _ => rfl, fun _ _ => rfl⟩
    | USub =>
      have h : (rec Γ sc x).map (.p1 .neg) = some c := h
      simp only [Option.map_eq_some_iff] at h
      obtain ⟨a, ha, rfl⟩ := h
      exact .of (ok_neg (hr Γ sc x a ha).eo) (fun _ _ => rfl) rfl (fun _ => rfl) fun _ _ => rfl
    | UAdd => first | exact zAA h | exact ff_tt h | cases h
    | Invert => first | exact zAA h | exact ff_tt h | cases h
  | Compare a ops cs pos => exact cCmp_ok fs hr h
  | List es pos =>
    have h : (if es.length ≤ 1000 then (cL rec Γ sc es).map fun es => trkAt C pos (.list es) else none) = some c := h
    split at h
    · rename_i hl
      simp only [Option.map_eq_some_iff] at h
      obtain ⟨cs, h1, rfl⟩ := h
      exact .of (zBw (ok_list hl (cL_ok hr h1))) (fun _ _ => rfl) rfl (fun _ => rfl) fun _ _ => rfl
    · first | exact zAA h | exact ff_tt h | cases h
  | Tuple es k pos =>
    have h : (if es.length ≤ 1000 then (cL rec Γ sc es).map .tup else none) = some c := h
    split at h
    · rename_i hl
      simp only [Option.map_eq_some_iff] at h
      obtain ⟨cs, h1, rfl⟩ := h
      exact .of (ok_tuple hl (cL_ok hr h1)) (fun _ _ => rfl) rfl (fun _ => rfl) fun _ _ => rfl
    · first | exact zAA h | exact ff_tt h | cases h
  | ListComp elt gens scope pos =>
    have h : ((cComp rec Γ sc elt gens scope).map fun e => trkAt C pos e) = some c := h
    simp only [Option.map_eq_some_iff] at h
    obtain ⟨c', h', rfl⟩ := h
    obtain ⟨x, px, iter, ifs, ce, cond, k, cs, rfl, h1, h2, h3, h4, rfl⟩ := cComp_ok fs cl hr h'
    exact .of (zBw (ok_comp h1 h2 h3 h4)) (fun _ _ => rfl) rfl (fun _ => rfl) fun _ _ => rfl
  | Subscript o i pos => exact cSub_ok fs hr h
  | Call fn args kws pos => exact cCall_ok fs FSs cl hr h
  | Attribute o m pos =>
    have h : ((C.attrs.lookup m).bind fun k => if noSuper o then (rec Γ sc o).map fun a => .attr a k else none) = some c := h
    simp only [Option.bind_eq_some_iff] at h
    obtain ⟨k, hk, h⟩ := h
    split at h
    · rename_i hb
      simp only [Option.map_eq_some_iff] at h
      obtain ⟨a, ha, rfl⟩ := h
      exact .of (ok_attr fs hk hb (hr Γ sc o a ha).eo) (fun _ _ => rfl) rfl (fun _ => rfl) fun _ _ => rfl
    · first | exact zAA h | exact ff_tt h | cases h
  | Dict ks vs pos =>
    exact cDict_ok hr h
  | _ => first | exact zAA h | exact ff_tt h | cases h
end
theorem cE_ok (fs : Facts S C T) (FSs : FS S F q d) (cl : Clean C) : ∀ (n : Nat) (Γ : List Str) (sc : Scope) (e : Expr) (c : CE), cE C n Γ sc e = some c → GOk S F q d Γ sc e c
  | 0, _, _, _, _, h => by cases h
  | n + 1, Γ, sc, e, c, h => stepE_ok fs FSs cl (cE_ok fs FSs cl n) h
theorem isComp_eq {e : Expr} (h : isComp e = true) : ∃ a b c p, e = .ListComp a b c p := by
  cases e with
  | ListComp => exact ⟨_, _, _, _, rfl⟩
  | Constant k n p => cases k <;> exact ff_tt h
  | Slice l u st p => cases st <;> exact ff_tt h
  | _ => exact ff_tt h
theorem zCr {n : Nat} {Γ : List Str} {sc : Scope} {e : Expr} {c : CE} (h : cE C n Γ sc e = some c) (hc : isComp e = false) : ∀ env n t, swapsWith e t n env = pure false := fun env _ t =>
  swaps_no hc (fun el gs sc p e' => by subst e'; cases n <;> cases h) (fun k v gs sc p e' => by subst e'; cases n <;> cases h)
section
variable {rec : Stmt → CS} {Γ : List Str} {sc : Scope}
theorem zEh (hr : ∀ s, SOk S F Fq q d Γ sc s (rec s)) : ∀ (ss : List Stmt), LSOk S F Fq q d Γ sc ss (ss.map rec)
  | [] => ok_nil
  | s :: ss => ok_cons (hr s) (zEh hr ss)
theorem cAsg_ok (fs : Facts S C T) (FSs : FS S F q d) (cl : Clean C) {t e : Expr} {pos : Pos} {c : CS} (h : cAsg C Γ sc t e = some c) : SOk S F Fq q d Γ sc (.Assign [t] e pos) c := by
  have hE := cE_ok (F := F) (q := q) (d := d) fs FSs cl deep
  unfold cAsg at h
  split at h
  · rename_i x hx
    obtain ⟨px, rfl⟩ := nameOf?_eq hx
    simp only [Option.bind_eq_some_iff, Option.map_eq_some_iff] at h
    obtain ⟨i, hi, a, ha, rfl⟩ := h
    cases hc : isComp e with
    | false => exact ok_asg hi (hE Γ sc _ a ha).eo (zCr ha hc)
    | true =>
      obtain ⟨elt, gens, scope, p, rfl⟩ := isComp_eq hc
      have ha : ((cComp (cE C 29) Γ sc elt gens scope).map fun e => trkAt C p e) = some a := ha
      simp only [Option.map_eq_some_iff] at ha
      obtain ⟨c', h', rfl⟩ := ha
      obtain ⟨x, px, iter, ifs, ce, cond, k, cs, rfl, h1, h2, h3, h4, rfl⟩ := cComp_ok fs cl (cE_ok fs FSs cl 29) h'
      refine zGr hi h1 h2 h3 h4 ?_
      unfold trkAt
      split
      · exact .inr rfl
      · exact .inl rfl
  · split at h
    · rename_i p hp
      obtain ⟨p', rfl⟩ := subParts?_eq hp
      split at h
      · first | exact zAA h | exact ff_tt h | cases h
      · rename_i hc
        simp only [Option.bind_eq_some_iff, Option.map_eq_some_iff] at h
        obtain ⟨v, hv, a, ha, b, hb, rfl⟩ := h
        exact ok_setItem (hE Γ sc _ a ha).eo (hE Γ sc _ b hb).eo (hE Γ sc _ v hv).eo (zCr hv (by simpa using hc))
    · unfold cAsgA at h
      split at h
      · rename_i p hp
        obtain ⟨o, m, pa⟩ := p
        obtain rfl := attrParts?_eq hp
        simp only [Option.bind_eq_some_iff] at h
        obtain ⟨k, hk, h⟩ := h
        split at h
        · first | exact zAA h | exact ff_tt h | cases h
        · rename_i hc
          simp only [Option.bind_eq_some_iff, Option.map_eq_some_iff] at h
          obtain ⟨v, hv, b, hb, rfl⟩ := h
          exact ok_setAttr fs hk (hE Γ sc _ b hb).eo (hE Γ sc _ v hv).eo (zCr hv (by simpa using hc))
      cases h
theorem cTK_ok (fs : Facts S C T) (FSs : FS S F q d) (cl : Clean C) {ss : List Stmt} {k : TK} {c : CE} (h : cTK C Γ sc ss = some (k, c)) : (∃ b₀ bs, ss = b₀ :: bs) ∧ TKOk S F q d Γ sc ss k c := by
  have hE := cE_ok (F := F) (q := q) (d := d) fs FSs cl deep
  match ss, h with
  | [], h => cases h
  | _ :: _ :: _, h => cases h
  | [s], h =>
    refine ⟨⟨_, _, rfl⟩, ?_⟩
    have h : cTK1 C Γ sc s = some (k, c) := h
    cases s with
    | Return v pos =>
      cases v with
      | none => first | exact zAA h | exact ff_tt h | cases h
      | some e =>
        obtain ⟨a, ha, e'⟩ := Option.map_eq_some_iff.mp h
        cases e'
        exact tk_ret (hE Γ sc _ _ ha).eo
    | Assign ts e pos =>
      match ts, h with
      | [], h => cases h
      | _ :: _ :: _, h => cases h
      | [t], h =>
        have h : (if isComp e = true then none else (nameOf? t).bind fun x => (slotOf Γ sc x).bind fun i => (cE C deep Γ sc e).map fun c => (TK.asg i, c)) = some (k, c) := h
        by_cases hcm : isComp e = true
        · rw [if_pos hcm] at h; first | exact zAA h | exact ff_tt h | cases h
        rw [if_neg hcm] at h
        obtain ⟨x, hx, h⟩ := Option.bind_eq_some_iff.mp h
        obtain ⟨i, hi, h⟩ := Option.bind_eq_some_iff.mp h
        obtain ⟨a, ha, e'⟩ := Option.map_eq_some_iff.mp h
        cases e'
        obtain ⟨px, rfl⟩ := nameOf?_eq hx
        exact tk_asg hi (hE Γ sc _ _ ha).eo (zCr ha (by simpa using hcm))
    | Expr e pos =>
      have h : (if isComp e = true then none else (cE C deep Γ sc e).map fun c => (TK.exp, c)) = some (k, c) := h
      by_cases hcm : isComp e = true
      · rw [if_pos hcm] at h; first | exact zAA h | exact ff_tt h | cases h
      rw [if_neg hcm] at h
      obtain ⟨a, ha, e'⟩ := Option.map_eq_some_iff.mp h
      cases e'
      exact tk_exp (hE Γ sc _ _ ha).eo (zCr ha (by simpa using hcm))
    | _ => first | exact zAA h | exact ff_tt h | cases h
theorem cHds_ok (fs : Facts S C T) (FSq : FS S Fq true d) (cl : Clean C) : ∀ {hs : List ExceptHandler} {cs : List Hd}, cHds C Γ sc hs = some cs → All2 (HdOk S C Fq d Γ sc) hs cs
  | [], cs, h => by cases h; exact .nil
  | h₀ :: hs, cs, h => by
    have h : ((cHd C Γ sc h₀).bind fun a => (cHds C Γ sc hs).map fun as => a :: as) = some cs := h
    simp only [Option.bind_eq_some_iff, Option.map_eq_some_iff] at h
    obtain ⟨a, ha, as, has, rfl⟩ := h
    refine .cons ?_ (cHds_ok fs FSq cl has)
    unfold cHd at ha
    split at ha
    · rename_i t n body pos
      simp only [Option.bind_eq_some_iff, Option.map_eq_some_iff] at ha
      obtain ⟨x, hx, k, hk, as, has, ⟨tk, c⟩, hp, rfl⟩ := ha
      obtain ⟨px, rfl⟩ := nameOf?_eq hx
      obtain ⟨⟨b₀, bs, rfl⟩, ht⟩ := cTK_ok fs FSq cl hp
      refine ⟨x, px, n, b₀, bs, pos, rfl, hk, ?_, ht⟩
      cases n with
      | none => cases has; exact .inl ⟨rfl, rfl⟩
      | some y =>
        have has : (if sc.names.lookup y == some .local then (slotOf Γ sc y).map some else none) = some as := has
        split at has
        · rename_i hl
          simp only [Option.map_eq_some_iff] at has
          obtain ⟨i, hi, rfl⟩ := has
          exact .inr ⟨y, i, rfl, rfl, eq_of_beq hl, hi⟩
        · first | exact zAA has | exact ff_tt has | cases has
    · first | exact zAA ha | exact ff_tt ha | cases ha
theorem cRaise_ok (fs : Facts S C T) {e : Expr} {pos : Pos} {c : CS} (h : cRaise C sc e = some c) : SOk S F Fq q d Γ sc (.Raise (some e) none pos) c := by
  obtain ⟨⟨fn, args, kws⟩, hc, h⟩ := Option.bind_eq_some_iff.mp h
  obtain ⟨cp, rfl⟩ := callParts?_eq hc
  clear hc
  match args, h with
  | [], h => cases h
  | _ :: _ :: _, h => cases h
  | [x], h =>
    have h2 : (if kws.isEmpty then (strC? x).bind fun s => (nameOf? fn).bind fun f => if s.length ≤ 1000 && PyData.strOk s then (excOf C sc f).map .raise else none else none) = some c := h
    by_cases hk0 : kws.isEmpty = true
    · rw [if_pos hk0] at h2
      obtain ⟨m, hm, h3⟩ := Option.bind_eq_some_iff.mp h2
      obtain ⟨f, hf, h4⟩ := Option.bind_eq_some_iff.mp h3
      obtain ⟨kk, kp, rfl⟩ := strC?_eq hm
      obtain ⟨px, rfl⟩ := nameOf?_eq hf
      obtain rfl : kws = [] := List.isEmpty_iff.mp hk0
      by_cases hl : (m.length ≤ 1000 && PyData.strOk m) = true
      · rw [if_pos hl] at h4
        obtain ⟨k, hk, rfl⟩ := Option.map_eq_some_iff.mp h4
        exact ok_raise fs hl hk
      · rw [if_neg hl] at h4; first | exact zAA h4 | exact ff_tt h4 | cases h4
    · rw [if_neg hk0] at h2; first | exact zAA h2 | exact ff_tt h2 | cases h2
theorem stepS_ok (fs : Facts S C T) (FSs : FS S F q d) (FSq : FS S Fq true d) (cl : Clean C) (hr : ∀ s, SOk S F Fq q d Γ sc s (rec s)) {s : Stmt} {c : CS} (h : stepS C Γ sc rec s = some c) : SOk S F Fq q d Γ sc s c := by
  have hE := cE_ok (F := F) (q := q) (d := d) fs FSs cl deep
  cases s with
  | Return v pos =>
    cases v with
    | none => first | exact zAA h | exact ff_tt h | cases h
    | some e =>
      have h : (cE C deep Γ sc e).map .ret = some c := h
      simp only [Option.map_eq_some_iff] at h
      obtain ⟨a, ha, rfl⟩ := h
      exact ok_ret (hE Γ sc _ a ha).eo
  | Assign ts e pos =>
    match ts, h with
    | [], h => cases h
    | [t], h => exact cAsg_ok fs FSs cl h
    | _ :: _ :: _, h => cases h
  | If t a b pos =>
    have h : ((cE C deep Γ sc t).map fun t => CS.ite t (a.map rec) (b.map rec)) = some c := h
    simp only [Option.map_eq_some_iff] at h
    obtain ⟨t', ht, rfl⟩ := h
    exact ok_if (hE Γ sc _ t' ht).to (zEh hr a) (zEh hr b)
  | For x iter body orelse pos =>
    cases orelse with
    | cons _ _ => first | exact zAA h | exact ff_tt h | cases h
    | nil =>
      have h : ((nameOf? x).bind fun x => (slotOf Γ sc x).bind fun i => (cSrc (cE C deep) Γ sc iter).map fun s => CS.for i s.1 s.2 (body.map rec)) = some c := h
      simp only [Option.bind_eq_some_iff, Option.map_eq_some_iff] at h
      obtain ⟨xn, hx, i, hi, ⟨k, cs⟩, hs, rfl⟩ := h
      obtain ⟨px, rfl⟩ := nameOf?_eq hx
      exact ok_for hi (cSrc_ok fs cl hE hs) (zEh hr body)
  | Expr e pos =>
    have h : (if isComp e then none else (cE C deep Γ sc e).map .exp) = some c := h
    split at h
    · first | exact zAA h | exact ff_tt h | cases h
    · rename_i hc
      simp only [Option.map_eq_some_iff] at h
      obtain ⟨a, ha, rfl⟩ := h
      exact ok_exp (hE Γ sc _ a ha).eo (zCr ha (by simpa using hc))
  | Pass pos => cases h; exact ok_pass
  | Raise e c' pos =>
    match e, c', h with
    | none, _, h => cases h
    | some _, some _, h => cases h
    | some e, none, h =>
      exact cRaise_ok fs h
  | Try body hs oe fb pos =>
    match hs, oe, fb, h with
    | h₀ :: hs, [], [], h =>
      have h : ((cTK C Γ sc body).bind fun p => (cHds C Γ sc (h₀ :: hs)).map fun hs => CS.try p.1 p.2 hs) = some c := h
      simp only [Option.bind_eq_some_iff, Option.map_eq_some_iff] at h
      obtain ⟨⟨k, ce⟩, hb, cs, hcs, rfl⟩ := h
      obtain ⟨⟨b₀, bs, rfl⟩, ht⟩ := cTK_ok fs FSs cl hb
      exact ok_try fs ht (cHds_ok fs FSq cl hcs)
    | [], _, _, h => cases h
    | _ :: _, _ :: _, _, h => cases h
    | _ :: _, [], _ :: _, h => cases h
  | _ => first | exact zAA h | exact ff_tt h | cases h
end
theorem cS_ok (fs : Facts S C T) (FSs : FS S F q d) (FSq : FS S Fq true d) (cl : Clean C) {Γ : List Str} {sc : Scope} : ∀ (n : Nat) (s : Stmt), SOk S F Fq q d Γ sc s (cS C Γ sc n s)
  | 0, _ => zHg
  | n + 1, s => by
    show SOk S F Fq q d Γ sc s ((stepS C Γ sc (cS C Γ sc n) s).getD .stuck)
    cases h : stepS C Γ sc (cS C Γ sc n) s with
    | none => exact zHg
    | some c => exact stepS_ok fs FSs FSq cl (cS_ok fs FSs FSq cl n) h
theorem sSL (fs : Facts S C T) (FSs : FS S F q d) (FSq : FS S Fq true d) (cl : Clean C) (Γ : List Str) (sc : Scope) (ss : List Stmt) : LSOk S F Fq q d Γ sc ss (cSL C Γ sc ss) := zEh (cS_ok fs FSs FSq cl deep) ss
end
end Mine
end

/-! # Fun -/
section
set_option autoImplicit false
namespace Mine
open PySem PyProof.Rows
inductive FnAt (S : Stat) (C : Ctx) (k : Nat) (fn : Fn) : Prop where
  | mk (o : Obj) (fd : FuncData) (body : List Stmt) (ps : List Str) (ho : S.hb.get? (S.fn k) = some o) (hdata : o.data = .func fd) (hbody : fd.body = .stmts body) (hclo : fd.closure = []) (hglob : fd.globals = mainGlobals) (hblt : fd.builtins = builtinsNs)
      (hcode : S.hb.CodeRec fd.code fd.qualname) (hco : fd.scope.isCoroutine = false) (hgen : fd.scope.isGenerator = false) (hkf : fd.scope.kind = .function)
      (hbind : ∀ vals : List Value, vals.length = ps.length → bindArgs fd ⟨vals, []⟩ = pure (ps.zip vals)) (hnd : ps.Nodup) (hpk : ∀ p ∈ ps, fd.scope.names.lookup p = some .local ∨ fd.scope.names.lookup p = some .cell)
      (hfree : ∀ p ∈ fd.scope.names, p.2 ≠ .free) (hnn : (fd.scope.names.map (·.1)).Nodup) (hpar : fn.params = ps.length) (hslots : fn.slots = (slotsOf ps fd.scope).length) (hcomp : cSL C (slotsOf ps fd.scope) fd.scope body = fn.body)
theorem zEz {kindOf : Str → Option NameKind} {x : Str} : ∀ (b : List (Str × Value)) (m : Str → Option Value), (∀ p ∈ b, p.1 ≠ x) → bindL kindOf b m x = m x
  | [], m, _ => rfl
  | (n, v) :: r, m, h => by
    rw [bindL, zEz r _ fun p hp => h p (List.mem_cons_of_mem _ hp)]
    have : x ≠ n := fun e => h (n, v) List.mem_cons_self e.symm
    split
    · simp [this]
    · rfl
theorem zFA {kindOf : Str → Option NameKind} {x : Str} : ∀ (b : List (Str × Value)) (m : Str → Option Value), (∀ p ∈ b, p.1 ≠ x) → bindC kindOf b m x = m x
  | [], m, _ => rfl
  | (n, v) :: r, m, h => by
    rw [bindC, zFA r _ fun p hp => h p (List.mem_cons_of_mem _ hp)]
    have : x ≠ n := fun e => h (n, v) List.mem_cons_self e.symm
    split
    · rfl
    · simp [this]
theorem zDj {ps : List Str} {vs : List Value} {p : Str × Value} (h : p ∈ ps.zip vs) : p.1 ∈ ps := (List.of_mem_zip h).1
theorem bindL_at {kindOf : Str → Option NameKind} {x : Str} {w : Value} (hk : kindOf x = some .local) : ∀ (ps : List Str) (vs : List Value) (i : Nat) (m : Str → Option Value), ps.Nodup → ps[i]? = some x → vs[i]? = some w → bindL kindOf (ps.zip vs) m x = some w
  | [], _, i, _, _, h, _ => by simp at h
  | p :: ps, [], i, _, _, _, h => by simp at h
  | p :: ps, v :: vs, 0, m, hn, h1, h2 => by
    obtain rfl : p = x := by simpa using h1
    obtain rfl : v = w := by simpa using h2
    rw [List.zip_cons_cons, bindL, zEz (x := p) _ _ fun q hq e => (List.nodup_cons.mp hn).1 (e ▸ zDj hq), if_pos hk]
    simp
  | p :: ps, v :: vs, i + 1, m, hn, h1, h2 => by
    rw [List.zip_cons_cons, bindL]
    exact bindL_at hk ps vs i _ (List.nodup_cons.mp hn).2 (by simpa using h1) (by simpa using h2)
theorem bindC_at {kindOf : Str → Option NameKind} {x : Str} {w : Value} (hk : kindOf x ≠ some .local) : ∀ (ps : List Str) (vs : List Value) (i : Nat) (m : Str → Option Value), ps.Nodup → ps[i]? = some x → vs[i]? = some w → bindC kindOf (ps.zip vs) m x = some w
  | [], _, i, _, _, h, _ => by simp at h
  | p :: ps, [], i, _, _, _, h => by simp at h
  | p :: ps, v :: vs, 0, m, hn, h1, h2 => by
    obtain rfl : p = x := by simpa using h1
    obtain rfl : v = w := by simpa using h2
    rw [List.zip_cons_cons, bindC, zFA (x := p) _ _ fun q hq e => (List.nodup_cons.mp hn).1 (e ▸ zDj hq), if_neg hk]
    simp
  | p :: ps, v :: vs, i + 1, m, hn, h1, h2 => by
    rw [List.zip_cons_cons, bindC]
    exact bindC_at hk ps vs i _ (List.nodup_cons.mp hn).2 (by simpa using h1) (by simpa using h2)
theorem zBN {x : Str} : ∀ (names : List (Str × NameKind)) (n : Nat) (acc : List (Str × Addr)), (acc.lookup x).isSome = true → ((cellsFrom n names acc).lookup x).isSome = true
  | [], _, _, h => h
  | (y, k) :: r, n, acc, h => by
    unfold cellsFrom
    split
    · refine zBN r _ _ ?_
      rw [List.lookup_cons]
      split
      · rfl
      · exact h
    · exact zBN r _ _ h
theorem zAc {x : Str} : ∀ (names : List (Str × NameKind)) (n : Nat) (acc : List (Str × Addr)), (x, NameKind.cell) ∈ names → ((cellsFrom n names acc).lookup x).isSome = true
  | [], _, _, h => nomatch h
  | (y, k) :: r, n, acc, h => by
    unfold cellsFrom
    rcases List.mem_cons.mp h with e | h
    · cases e
      rw [if_pos (by rfl)]
      exact zBN r _ _ (by rw [List.lookup_cons]; simp)
    · split
      · exact zAc r _ _ h
      · exact zAc r _ _ h
theorem zAz : ∀ (names : List (Str × NameKind)) (n : Nat) (acc : List (Str × Addr)), (names.map (·.1)).Nodup → (acc.map (·.1)).Nodup → (∀ x ∈ acc.map (·.1), x ∉ names.map (·.1)) → ((cellsFrom n names acc).map (·.1)).Nodup
  | [], _, _, _, h, _ => h
  | (y, k) :: r, n, acc, h1, h2, h3 => by
    have h1' := List.nodup_cons.mp h1
    unfold cellsFrom
    split
    · refine zAz r _ _ h1'.2 (List.nodup_cons.mpr ⟨fun h => h3 _ h List.mem_cons_self, h2⟩) fun x hx => ?_
      rcases List.mem_cons.mp hx with rfl | hx
      · exact h1'.1
      · exact fun h => h3 x hx (List.mem_cons_of_mem _ h)
    · exact zAz r _ _ h1'.2 h2 fun x hx h => h3 x hx (List.mem_cons_of_mem _ h)
theorem zCj {β : Type} : ∀ {l : List (Str × β)} {p : Str × β}, (l.map (·.1)).Nodup → p ∈ l → l.lookup p.1 = some p.2
  | (y, v) :: r, p, hn, h => by
    have hn' := List.nodup_cons.mp hn
    rw [List.lookup_cons]
    rcases List.mem_cons.mp h with rfl | h
    · simp
    · have : (p.1 == y) = false := by
        cases e : (p.1 == y) with
        | false => rfl
        | true => exact (hn'.1 (eq_of_beq e ▸ List.mem_map_of_mem (f := (·.1)) h)).elim
      rw [this]
      exact zCj hn'.2 h
section
variable {S : Stat} {C : Ctx} {T : Nat → Option Fn}
theorem zDB (fs : Facts S C T) (cl : Clean C) (fa : ∀ k fn, T k = some fn → FnAt S C k fn) : ∀ (d : Nat) (q : Bool), FS S (callFn T d q) q d
  | 0, q => fun k vs σ f X A s vals cx L rs hne => (hne (by rfl)).elim
  | d + 1, q => fun k vs σ f X A s vals cx L rs hne => by
    have ih := zDB fs cl fa d q
    have ihq := zDB fs cl fa d true
    rw [zBt] at hne ⊢
    cases hT : T k with
    | none => rw [hT] at hne; exact (hne rfl).elim
    | some fn =>
      rw [hT] at hne
      simp only at hne ⊢
      by_cases hlen : vs.length = fn.params
      case neg => rw [if_neg hlen] at hne; exact (hne rfl).elim
      rw [if_pos hlen] at hne ⊢
      obtain ⟨o, fd, body, ps, ho, hdata, hbody, hclo, hglob, hblt, hcode, hco, hgen, hkf, hbind, hnd, hpk, hfree, hnn, hpar, hslots, hcomp⟩ := fa k fn hT
      have LS : LSOk S (callFn T d q) (callFn T d true) q d (slotsOf ps fd.scope) fd.scope body fn.body := hcomp ▸ sSL fs ih ihq cl _ _ _
      refine ⟨⟨o, fd, ho, hdata⟩, ?_⟩
      have hvl : vals.length = ps.length := by rw [← zBE rs, hlen, hpar]
      refine codeAny_call_cells (by have := cx.depth; show A.depth < 1000; omega) (L.base _ _ ho) hdata (by obtain ⟨mc, h1, h2⟩ := fs.nolimit; exact ⟨mc, L.ns h1, h2⟩)
        (by obtain ⟨c, o, vs, t, e1, e2, e3⟩ := hcode; exact ⟨c, o, vs, t, e1, L.base _ _ e2, e3⟩) hbody (hbind vals hvl) hclo
        (fun x hx => (hpk x.1 (zDj hx)).imp id fun h => ⟨h, zAc _ _ _ (zAG h)⟩) (fun s₁ ic => ?_) hco hgen hkf
      generalize henv : callEnvC fd s.heap.objs.size (S.fn k) = env at ic ⊢
      have e_loc : env.locals = s.heap.objs.size := by rw [← henv]; rfl
      have e_cells : env.cells = cellsFrom (s.heap.objs.size + 1) fd.scope.names [] := by rw [← henv]; rfl
      have e_kind : ∀ x, env.kindOf x = fd.scope.names.lookup x := fun x => by rw [← henv]; rfl
      have e_scope : env.scope = fd.scope := by rw [← henv]; rfl
      have e_glob : env.globals = mainGlobals := by rw [← henv]; exact hglob
      have e_blt : env.builtins = builtinsNs := by rw [← henv]; exact hblt
      have e_frame : env.frame = some s.heap.objs.size := by rw [← henv]; rfl
      have hkeep := ic.toInCall.keep
      have hnew : ∀ a, s.heap.objs.size ≤ a → s.heap.get? a = none := fun a ha => by
        cases e : s.heap.get? a with
        | none => rfl
        | some o => exact absurd (Heap.lt_size e) (Nat.not_lt.mpr ha)
      have hN : ∀ a ∈ ya env, s.heap.get? a = none ∧ ∃ o, s₁.heap.get? a = some o := fun a ha => by
        rcases List.mem_cons.mp ha with rfl | ha
        · refine ⟨hnew _ (by rw [e_loc]; exact Nat.le_refl _), ?_⟩
          obtain ⟨o, _, _, ho, _⟩ := ic.toInCall.ns
          exact ⟨o, ho⟩
        · obtain ⟨p, hp, rfl⟩ := List.mem_map.mp ha
          have hlo := ic.above p.1 p.2 hp
          refine ⟨hnew _ (Nat.le_of_lt (e_loc ▸ hlo)), ?_⟩
          have hlk : env.cells.lookup p.1 = some p.2 := zCj (by rw [e_cells]; exact zAz _ _ _ hnn .nil fun _ h => nomatch h) hp
          obtain ⟨o, ho, _⟩ := ic.cell p.1 p.2 hlk
          exact ⟨o, ho⟩
      have L' : Lk S (ya env ++ X) f σ s₁.heap := L.enter hkeep hN
      have rs' : VRs S (ya env ++ X) f s₁.heap vs vals :=
        VRs.keep (fun _ _ e => e) (fun a o ho h1 h2 => ⟨⟨h1, fun h => (List.mem_append.mp h).elim (fun h => by rw [(hN a h).1] at ho; cases ho) h2⟩, o, hkeep a o ho, .refl o⟩) _ _ rs
      have hcx : Cx S (A.deeper env) q d f s₁.heap env.frame := by
        obtain ⟨l, h1, h2⟩ := cx.frs
        refine ⟨by have := cx.depth; show A.depth + 1 + 2 * d + 3 ≤ 900; omega, by have := cx.units; show A.units + 3 + 5 * d + 202 ≤ 9900; omega, cx.hand, env, l, by show A.frames.map (env :: ·) = _; rw [h1]; rfl, rfl, fun e he => ?_⟩
        rcases List.mem_cons.mp he with rfl | he
        · obtain ⟨o, es, n, ho, hd, _⟩ := ic.toInCall.ns
          have hl := L'.hid e.locals (List.mem_append_left _ List.mem_cons_self)
          exact ⟨by rw [e_scope, hkf]; simp, e.locals, o, es, n, by rw [e_frame, e_loc], hl.1, hl.2.1, ho, hd⟩
        · obtain ⟨h3, L1, o, es, n, h4, h5, h6, h7, h8⟩ := h2 e he
          exact ⟨h3, L1, o, es, n, h4, h5, h6, hkeep _ _ h7, h8⟩
      have hfr : FR S (ya env ++ X) f s₁.heap env (slotsOf ps fd.scope) fd.scope (vs ++ List.replicate (fn.slots - fn.params) .undef) := by
        refine ⟨by rw [e_scope, hkf], e_glob, e_blt, fun x => .inl (e_kind x), ⟨List.mem_append_left _ List.mem_cons_self, _, ic.toInCall.ns⟩, fun x hx => ?_, fun x i v h1 h2 h3 h4 => ?_, ?_⟩
        · have hc : fd.scope.names.lookup x = some .cell := by
            rcases hx with h | h
            · rw [← e_kind]; exact h
            · rw [e_kind] at h; exact absurd rfl (hfree _ (zAG h))
          have := zAc (x := x) fd.scope.names (s.heap.objs.size + 1) [] (zAG hc)
          rw [← e_cells] at this
          obtain ⟨c, hcl⟩ := Option.isSome_iff_exists.mp this
          exact ⟨c, _, hcl, List.mem_append_left _ (List.mem_cons_of_mem _ (zEs hcl)), ic.cell x c hcl⟩
        · have hi : i < vs.length := by
            cases hlt : decide (i < vs.length) with
            | true => exact of_decide_eq_true hlt
            | false =>
              have hge : vs.length ≤ i := Nat.le_of_not_lt (of_decide_eq_false hlt)
              rw [List.getElem?_append_right hge] at h3
              have := List.eq_of_mem_replicate (List.mem_of_getElem? h3)
              exact (h4 this).elim
          rw [List.getElem?_append_left hi] at h3
          obtain ⟨w, hw, r⟩ := zBu rs' h3
          have hx : ps[i]? = some x := by
            have := zBH h2
            unfold slotsOf at this
            rwa [List.getElem?_append_left (by rw [← hpar, ← hlen]; exact hi)] at this
          refine ⟨w, ?_, r⟩
          rcases hpk x (List.mem_of_getElem? hx) with h | h
          · exact .inl ⟨by rw [e_kind, h], _, ic.toInCall.ns, bindL_at (by rw [e_kind, h]) ps vals i _ hnd hx hw⟩
          · have := zAc (x := x) fd.scope.names (s.heap.objs.size + 1) [] (zAG h)
            rw [← e_cells] at this
            obtain ⟨c, hcl⟩ := Option.isSome_iff_exists.mp this
            refine .inr ⟨.inl (by rw [e_kind, h]), c, hcl, ?_⟩
            have := ic.cell x c hcl
            rwa [bindC_at (by rw [e_kind, h]; simp) ps vals i _ hnd hx hw] at this
        · have : (slotsOf ps fd.scope).length = ps.length + ((fd.scope.names.filter fun p => (p.2 == .local || p.2 == .cell) && !ps.contains p.1).map (·.1)).length := by rw [slotsOf, List.length_append]
          rw [List.length_append, List.length_replicate, hlen, hslots, hpar]
          omega
      have hfw : FW env (ya env ++ X) := by
        refine ⟨List.mem_append_left _ List.mem_cons_self, fun p hp => List.mem_append_left _ (List.mem_cons_of_mem _ (List.mem_map_of_mem hp)), fun x y c h1 h2 => ?_⟩
        exact name_of_addr ic.apart (mem_of_lookup h1) (mem_of_lookup h2)
      have hne' : exL (callFn T d q) (callFn T d true) q fn.body (vs ++ List.replicate (fn.slots - fn.params) .undef) σ ≠ .stuck := fun e => hne (by rw [e]; rfl)
      refine wpAny_mono (LS env _ f (ya env ++ X) σ s₁ (A.deeper env) ⟨hcx, hfr, L'⟩ hfw hne') (fun fl s' hq => ?_) fun e s' he => ?_
      · obtain ⟨x, σ', g, er, hg, kp, Lk', hfl⟩ := hq
        rw [er] at hne ⊢
        have hg0 : Fresh g s := fun a ha => zAS (fun a o e => ⟨o, hkeep a o e⟩) (hg a ha)
        have kp0 : Kp f [] s s' := by
          obtain ⟨h0, tk, e0⟩ := ic.toInCall.same
          refine ⟨by rw [kp.rest, e0], fun a o e => kp.live a o (hkeep a o e), fun a o e h1 _ => kp.kept a o (hkeep a o e) h1 fun h => (by rw [(hN a h).1] at e; cases e), fun a o es n e hd h1 => kp.dicts a o es n (hkeep a o e) hd h1⟩
        have Lk0 : Lk S X (f ++ g) σ' s'.heap := Lk'.less fun a ha => List.mem_append_right _ ha
        cases x with
        | ret v =>
          obtain ⟨w, rfl, r⟩ := hfl
          exact ⟨v, σ', g, rfl, hg0, kp0, Lk0, r.less fun a ha => List.mem_append_right _ ha⟩
        | next ρ' =>
          obtain ⟨rfl, -⟩ := hfl
          exact ⟨.none, σ', g, rfl, hg0, kp0, Lk0, by show VR _ _ _ _ _ _; rw [VR]⟩
      · obtain ⟨c, σ', g, ea, rfl, e2, hg, kp, Lk', x⟩ := he
        rw [e2] at hne ⊢
        obtain ⟨en, l, h1, h2, h3⟩ := (hcx.keep kp hg).frs
        obtain ⟨_, L1, _, _, _, h4, _⟩ := h3 en List.mem_cons_self
        have hX : ∀ a ∈ ya env ++ X, ∃ o, s₁.heap.get? a = some o := fun a ha => (L'.hid a ha).2.2
        unfold leaving
        rw [zBU (env' := en) h2]
        refine wpAny_bind (zEr h1 h3 h4 x hX kp fun h' kp1 L'' x' => ?_)
        refine ⟨c, σ', g, ea, rfl, rfl, fun a ha => zAS (fun a o e => ⟨o, hkeep a o e⟩) (hg a ha), ?_, L''.less fun a ha => List.mem_append_right _ ha, (x'.less fun a ha => List.mem_append_right _ ha).back fun a h => zAS (fun a o e => ⟨o, hkeep a o e⟩) h⟩
        obtain ⟨h0, tk, e0⟩ := ic.toInCall.same
        exact ⟨by rw [kp1.rest, e0], fun a o e => kp1.live a o (hkeep a o e), fun a o e h1 _ => kp1.kept a o (hkeep a o e) h1 fun h => (by rw [(hN a h).1] at e; cases e), fun a o es n e hd h1 => kp1.dicts a o es n (hkeep a o e) hd h1⟩
end
end Mine
end

/-! # Link -/
section
set_option autoImplicit false
namespace Mine
open PySem PySem.W PyProof.Rows
noncomputable def plainArgs (a : Arguments) : Bool := a.posonlyargs.isEmpty && a.vararg.isNone && a.kwonlyargs.isEmpty && a.kw_defaults.isEmpty && a.kwarg.isNone && a.defaults.isEmpty
noncomputable def recOkB (params : Arguments) (scope : Scope) : Bool := plainArgs params && !scope.isCoroutine && !scope.isGenerator && scope.kind == .function && decide (params.args.map (·.arg)).Nodup && ((params.args.map (·.arg)).all fun p => scope.names.lookup p == some .local || scope.names.lookup p == some .cell)
  && !scope.names.any (fun p => p.2 == .free) && decide (scope.names.map (·.1)).Nodup
noncomputable def recFn (C : Ctx) (params : Arguments) (body : List Stmt) (scope : Scope) : Option Fn :=
  if recOkB params scope then some ⟨(params.args.map (·.arg)).length, (slotsOf (params.args.map (·.arg)) scope).length, cSL C (slotsOf (params.args.map (·.arg)) scope) scope body⟩ else none
noncomputable def tabF (C : Ctx) (ds : List DefRec) : Option (List (Nat × Fn)) := ds.mapM fun d => (C.fns.lookup d.name).bind fun k => (recFn C d.params d.body d.scope).map fun f => (k, f)
noncomputable def tabM (C : Ctx) (ms : List MethRec) : Option (List (Nat × Fn)) := ms.mapM fun d => (C.meths.lookup d.name).bind fun k => (recFn C d.params d.body d.scope).map fun f => (k, f)
theorem zFJ {α β : Type} {g : α → Option β} : ∀ {l : List α} {r : List β} {b : β}, l.mapM g = some r → b ∈ r → ∃ a ∈ l, g a = some b
  | [], r, b, h, hb => by simp at h; subst h; cases hb
  | a :: l, r, b, h, hb => by
    rw [List.mapM_cons] at h
    cases h1 : g a with
    | none => first | (rw [h1] at h; exact zAA h) | simp [h1] at h
    | some x =>
      cases h2 : l.mapM g with
      | none => first | (rw [h1, h2] at h; exact zAA h) | (rw [h1, Option.bind_some, h2] at h; exact zAA h) | simp [h1, h2] at h
      | some xs =>
        simp [h1, h2] at h
        subst h
        rcases List.mem_cons.mp hb with rfl | hb
        · exact ⟨a, List.mem_cons_self, h1⟩
        · obtain ⟨a', h3, h4⟩ := zFJ h2 hb
          exact ⟨a', List.mem_cons_of_mem _ h3, h4⟩
theorem zEW {β : Type} {k : Nat} {y : β} : ∀ {l : List (Nat × β)}, l.lookup k = some y → (k, y) ∈ l
  | (k', y') :: l, h => by
    rw [List.lookup_cons] at h
    split at h
    · rename_i e; cases h; rw [eq_of_beq e]; exact List.mem_cons_self
    · exact List.mem_cons_of_mem _ (zEW h)
noncomputable def refOf : Option Value → Addr
  | some (.ref a) => a
  | _ => 0
noncomputable def fnAddr (C : Ctx) (mg mN : Str → Option Value) (k : Nat) : Addr := match C.fns.find? (fun p => p.2 == k) with
  | some p => refOf (mg p.1)
  | none => (match C.meths.find? (fun p => p.2 == k) with
    | some p => refOf (mN p.1)
    | none => 0)
theorem zEn {β : Type} : ∀ {ps : List Str} {vs : List β} {n : Str}, n ∈ ps → vs.length = ps.length → ∃ v, (ps.zip vs).lookup n = some v
  | p :: ps, [], n, _, h => by simp at h
  | p :: ps, v :: vs, n, hn, h => by
    rw [List.zip_cons_cons, List.lookup_cons]
    split
    · exact ⟨v, rfl⟩
    · rename_i e
      rcases List.mem_cons.mp hn with rfl | hn
      · simp at e
      · exact zEn hn (by simpa using h)
theorem zHS {β : Type} : ∀ {ps : List Str} {vs : List β}, ps.Nodup → vs.length = ps.length → (ps.filterMap fun n => ((ps.zip vs).lookup n).map (n, ·)) = ps.zip vs
  | [], vs, _, _ => by simp
  | p :: ps, [], _, h => by simp at h
  | p :: ps, v :: vs, hn, h => by
    have hn' := List.nodup_cons.mp hn
    rw [List.zip_cons_cons, List.filterMap_cons]
    simp only [List.lookup_cons, beq_self_eq_true, Option.map_some]
    have key : ∀ l : List Str, (∀ n ∈ l, n ≠ p) → (l.filterMap fun n => (match n == p with | true => some v | false => (ps.zip vs).lookup n).map (n, ·)) = l.filterMap fun n => ((ps.zip vs).lookup n).map (n, ·) := by
      intro l hl
      induction l with
      | nil => rfl
      | cons n l ih =>
        have hne : (n == p) = false := by simpa using hl n List.mem_cons_self
        rw [List.filterMap_cons, List.filterMap_cons, ih fun n hm => hl n (List.mem_cons_of_mem _ hm), hne]
    exact congrArg _ ((key ps fun n hm e => hn'.1 (e ▸ hm)).trans (zHS hn'.2 (by simpa using h)))
noncomputable def noDf (n : Nat) : List Value := List.drop (([] : List Value).length - n) []
theorem noDf_eq (n : Nat) : noDf n = [] := List.drop_nil
theorem bind_by {fd : FuncData} {as : List Arg} {ps : List Str} {vals : List Value} (hp : fd.params = ⟨[], as, none, [], [], none, []⟩) (h1 : fd.defaults = .none) (h2 : fd.kwdefaults = .none) (hps : as.map (·.arg) = ps) (hgt : ¬ ((decide (vals.length > ps.length) && true) = true))
    (hm : ¬ ((!(List.filter (fun n => ((ps.zip vals).lookup n).isNone) (List.take (ps.length - (noDf ps.length).length) ps)).isEmpty) = true))
    (hz : (ps.drop (ps.length - (noDf ps.length).length)).zip (noDf ps.length) = []) {r : List (Str × Value)} (hr : (ps ++ []).filterMap (fun n => ((ps.zip vals).lookup n).map (n, ·)) = r) :
    bindArgs fd ⟨vals, []⟩ = pure r := by
  cases hps
  cases fd
  cases hp
  cases h1
  cases h2
  refine (if_neg hgt).trans ((if_neg hm).trans ?_)
  exact Eq.trans (congrArg (fun l => (forIn l _ _ : Sem _) >>= _) hz) (congrArg (fun x => (pure x : Sem (List (Str × Value)))) hr)
theorem bind_all {fd : FuncData} {as : List Arg} (hp : fd.params = ⟨[], as, none, [], [], none, []⟩) (h1 : fd.defaults = .none) (h2 : fd.kwdefaults = .none) (hn : (as.map (·.arg)).Nodup) (vals : List Value) (hl : vals.length = (as.map (·.arg)).length) :
    bindArgs fd ⟨vals, []⟩ = pure ((as.map (·.arg)).zip vals) := by
  refine bind_by hp h1 h2 rfl (by rw [hl, Bool.and_true, decide_eq_true_iff]; exact Nat.lt_irrefl _) ?_ (by rw [noDf_eq]; exact List.zip_nil_right) (by rw [List.append_nil]; exact zHS hn hl)
  rw [noDf_eq, List.length_nil, Nat.sub_zero, List.take_length]
  have : ((as.map (·.arg)).filter fun n => (((as.map (·.arg)).zip vals).lookup n).isNone) = [] := by
    rw [List.filter_eq_nil_iff]
    intro n hm
    obtain ⟨v, e⟩ := zEn hm hl
    rw [e]; exact Bool.false_ne_true
  rw [this]; exact Bool.false_ne_true
noncomputable def fnsOk (C : Ctx) (ds : List DefRec) : Bool := C.fns.all fun q => C.fns.find? (fun r => r.2 == q.2) == some q && ds.any (fun d => d.name == q.1)
noncomputable def methsOk (C : Ctx) (ms : List MethRec) : Bool := C.meths.all fun q => C.fns.find? (fun r => r.2 == q.2) == none && C.meths.find? (fun r => r.2 == q.2) == some q && ms.any (fun d => d.name == q.1)
theorem zFh {a : Arguments} (h : plainArgs a = true) : a = ⟨[], a.args, none, [], [], none, []⟩ := by
  obtain ⟨a1, a2, a3, a4, a5, a6, a7⟩ := a
  unfold plainArgs at h
  simp only [Bool.and_eq_true, List.isEmpty_iff, Option.isNone_iff_eq_none] at h
  obtain ⟨⟨⟨⟨⟨rfl, rfl⟩, rfl⟩, rfl⟩, rfl⟩, rfl⟩ := h
  rfl
theorem by_name {α : Type} (nm : α → Str) {d d' : α} (hn : nm d' = nm d) : ∀ l : List α, (l.map nm).Nodup → d' ∈ l → d ∈ l → d' = d := by
  intro l
  induction l with
  | nil => intro _ h; cases h
  | cons x l ih =>
    intro hnd h1 h2
    have hnd' := List.nodup_cons.mp hnd
    rcases List.mem_cons.mp h1 with rfl | h1' <;> rcases List.mem_cons.mp h2 with rfl | h2'
    · rfl
    · exact (hnd'.1 (by rw [hn]; exact List.mem_map_of_mem (f := nm) h2')).elim
    · exact (hnd'.1 (by rw [← hn]; exact List.mem_map_of_mem (f := nm) h1')).elim
    · exact ih hnd'.2 h1' h2'
section
variable {p : Program} {loose : List Str} {mean : ExcName → Option Value} {mg mb mN : Str → Option Value} {S : Stat} {C : Ctx} {tab tF tM : List (Nat × Fn)} {c : ClsRec} {Cb N : Addr}
theorem fnAt_rec {k : Nat} {fn : Fn} {o : Obj} {fd : FuncData} {params : Arguments} {body : List Stmt} {scope : Scope} (hr : recFn C params body scope = some fn) (e2 : S.hb.get? (S.fn k) = some o) (e3 : o.data = .func fd)
    (h1 : fd.params = params) (h2 : fd.body = .stmts body) (h3 : fd.scope = scope) (h4 : fd.closure = []) (h5 : fd.globals = mainGlobals) (h6 : fd.builtins = builtinsNs) (h7 : fd.defaults = .none) (h8 : fd.kwdefaults = .none) (e4 : S.hb.CodeRec fd.code fd.qualname) : FnAt S C k fn := by
  subst h1 h3
  unfold recFn at hr
  by_cases hc : recOkB fd.params fd.scope = true
  case neg => rw [if_neg hc] at hr; first | exact zAA hr | exact ff_tt hr | cases hr
  rw [if_pos hc] at hr
  cases hr
  unfold recOkB at hc
  simp only [Bool.and_eq_true, Bool.not_eq_true', beq_iff_eq, decide_eq_true_eq] at hc
  obtain ⟨⟨⟨⟨⟨⟨⟨c0, c1⟩, c2⟩, c3⟩, c4⟩, c5⟩, c6⟩, c7⟩ := hc
  refine ⟨o, fd, body, fd.params.args.map (·.arg), e2, e3, h2, h4, h5, h6, e4, c1, c2, c3, fun vals hv => bind_all (zFh c0) h7 h8 c4 vals hv, c4, fun q hq => ?_, fun q hq => ?_, c7, rfl, rfl, rfl⟩
  · have := List.all_eq_true.mp c5 q hq
    exact (Bool.or_eq_true_iff.mp this).imp eq_of_beq eq_of_beq
  · intro e
    have := List.any_eq_false.mp c6 q hq
    rw [e] at this
    exact this rfl
theorem fn_at (T : Top p loose mean mg mb S.hb) (hf : fnsOk C (recsOf p) = true) (hS : S.fn = fnAddr C mg mN) {x : Str} {k : Nat} (h : C.fns.lookup x = some k) :
    ∃ d ∈ recsOf p, d.name = x ∧ ∃ o pm code doc, mg x = some (.ref (S.fn k)) ∧ S.hb.get? (S.fn k) = some o ∧ o.data = .func (Calls.docDef d.name d.params d.body d.scope pm code doc) ∧ S.hb.CodeRec code d.name := by
  have hm := zAG h
  have := List.all_eq_true.mp hf _ hm
  simp only [Bool.and_eq_true, beq_iff_eq] at this
  obtain ⟨h1, h2⟩ := this
  obtain ⟨d, hd, hn⟩ := List.any_eq_true.mp h2
  obtain rfl := eq_of_beq hn
  obtain ⟨a, o, pm, code, doc, e1, e2, e3, e4⟩ := T.fn d hd
  have ha : S.fn k = a := by rw [hS, fnAddr, h1]; simp only [e1, refOf]
  rw [ha]
  exact ⟨d, hd, rfl, o, pm, code, doc, e1, e2, e3, e4⟩
theorem fnAt_of (T : Top p loose mean mg mb S.hb) (hf : fnsOk C (recsOf p) = true) (hS : S.fn = fnAddr C mg mN) (hone : ((recsOf p).map (·.name)).Nodup) (htab : tabF C (recsOf p) = some tF) : ∀ k fn, (k, fn) ∈ tF → FnAt S C k fn := by
  intro k fn hk
  obtain ⟨d, hd, e⟩ := zFJ htab hk
  simp only [Option.bind_eq_some_iff, Option.map_eq_some_iff] at e
  obtain ⟨k', hl, f, hr, e⟩ := e
  cases e
  obtain ⟨d', hd', hn, o, pm, code, doc, -, e2, e3, e4⟩ := fn_at T hf hS hl
  obtain rfl := by_name (·.name) hn _ hone hd' hd
  exact fnAt_rec hr e2 e3 rfl rfl rfl rfl rfl rfl rfl rfl e4
theorem zFI (P : PlainAt S.hb c Cb N mN) (hf : methsOk C c.meths = true) (hS : S.fn = fnAddr C mg mN) {x : Str} {k : Nat} (h : C.meths.lookup x = some k) :
    ∃ d ∈ c.meths, d.name = x ∧ ∃ o pm code doc, mN x = some (.ref (S.fn k)) ∧ S.hb.get? (S.fn k) = some o ∧ o.cls = .type "function" ∧ o.data = .func (methDef d.name (c.name ++ "." ++ d.name) d.params d.body d.scope pm code doc) ∧ S.hb.CodeRec code (c.name ++ "." ++ d.name) := by
  have hm := zAG h
  have := List.all_eq_true.mp hf _ hm
  simp only [Bool.and_eq_true, beq_iff_eq] at this
  obtain ⟨⟨h0, h1⟩, h2⟩ := this
  obtain ⟨d, hd, hn⟩ := List.any_eq_true.mp h2
  obtain rfl := eq_of_beq hn
  obtain ⟨a, o, pm, code, doc, e1, e2, ec, e3, e4⟩ := P.meths d hd
  have ha : S.fn k = a := by rw [hS, fnAddr, h0, h1]; simp only [e1, refOf]
  rw [ha]
  exact ⟨d, hd, rfl, o, pm, code, doc, e1, e2, ec, e3, e4⟩
theorem methAt_of (P : PlainAt S.hb c Cb N mN) (hf : methsOk C c.meths = true) (hS : S.fn = fnAddr C mg mN) (hone : (c.meths.map (·.name)).Nodup) (htab : tabM C c.meths = some tM) : ∀ k fn, (k, fn) ∈ tM → FnAt S C k fn := by
  intro k fn hk
  obtain ⟨d, hd, e⟩ := zFJ htab hk
  simp only [Option.bind_eq_some_iff, Option.map_eq_some_iff] at e
  obtain ⟨k', hl, f, hr, e⟩ := e
  cases e
  obtain ⟨d', hd', hn, o, pm, code, doc, -, e2, -, e3, e4⟩ := zFI P hf hS hl
  obtain rfl := by_name (·.name) hn _ hone hd' hd
  exact fnAt_rec hr e2 e3 rfl rfl rfl rfl rfl rfl rfl rfl e4
theorem book_of (P : PlainAt S.hb c Cb N mN) (hC : S.book = Cb) (hf : methsOk C c.meths = true) (hS : S.fn = fnAddr C mg mN) (hi : C.meths.lookup ("__init__" : Str) = some 0) (hq : attrName 0 ∈ c.quiet ∧ attrName 1 ∈ c.quiet) : BookAt S C := by
  subst hC
  obtain ⟨nm, q, bs, sn, sub, col, dd, k0, k1, k2, k3, k5, e⟩ := P.cls.obj
  have q3 : ∀ n ∈ (["__setattr__", "__getattribute__", "__getattr__"] : List Str), mN n = none := fun n hn => P.quiet n (List.mem_append_left _ hn)
  refine ⟨N, mN, nm, q, bs, sn, sub, col, dd, k0, k1, k2, k3, k5, e, P.cls.ns, ⟨q3 _ (by simp), q3 _ (by simp), q3 _ (by simp), P.quiet _ hq.1, P.quiet _ hq.2⟩, ?_, ?_, fun m k h => ?_⟩
  · obtain ⟨_, _, _, _, _, _, _, e1, _⟩ := zFI P hf hS hi; exact e1
  · obtain ⟨_, _, _, o, _, _, _, _, e2, ec, _⟩ := zFI P hf hS hi; exact ⟨o, e2, ec⟩
  · obtain ⟨_, _, _, o, _, _, _, e1, e2, ec, _⟩ := zFI P hf hS h; exact ⟨e1, o, e2, ec⟩
noncomputable def freeOk (p : Program) (loose : List Str) (C : Ctx) : Bool := (b1Names.map (·.1) ++ b2Names.map (·.1) ++ kindNames.map (·.1) ++ [("isinstance" : Str), "range"]).all fun x =>
  (C.fns.lookup x).isSome || (x != ("__name__" : Str) && !(startupNames.contains x || loose.contains x || ((recsOf p).map (·.name)).contains x || ((litsOf p).map (·.1)).contains x || ((clssOf p loose).map (·.name)).contains x))
theorem facts_of (T : Top p loose mean mg mb S.hb) (hf : fnsOk C (recsOf p) = true) (hS : S.fn = fnAddr C mg mN) (hfree : freeOk p loose C = true)
    (hconst : ∀ x v, C.consts.lookup x = some v → ∃ w, mg x = some w ∧ VR S [] [] S.hb v w) (hbook : C.book = true → mg "Book" = some (.ref S.book)) (hB : (C.book = false ∧ C.meths = [] ∧ C.attrs = []) ∨ (C.attrs = attrNames ∧ BookAt S C))
    (hexc : ∀ x c, C.excs.lookup x = some c → (mg x = some (S.cl c)) ∨ (mg x = none ∧ mb x = some (S.cl c))) (hcl : ∀ x c, C.excs.lookup x = some c → c ∈ S.kn ∧ (x ≠ ("ValueError" : Str) → ExcCl S c))
    (hparts : PartsAt S S.hb) (hpn : S.parts ≠ .none) (fa : ∀ k fn, tab.lookup k = some fn → FnAt S C k fn) : Facts S C (fun k => tab.lookup k) := by
  refine ⟨⟨mg, mb, T.g, T.b, hconst, fun x k h => ?_, fun x hx hn => ?_, hbook, hexc⟩, T.nolimit, hB, hcl, hparts, hpn, fun k fn h => ?_⟩
  · obtain ⟨_, _, _, _, _, _, _, e, _⟩ := fn_at T hf hS h
    exact e
  · have hm : x ∈ b1Names.map (·.1) ++ b2Names.map (·.1) ++ kindNames.map (·.1) ++ [("isinstance" : Str), "range"] := by
      simp only [List.mem_append, List.mem_cons, List.not_mem_nil, or_false]
      rcases hx with h | h | h | h | h
      · exact .inl (.inl (.inl h))
      · exact .inl (.inl (.inr h))
      · exact .inl (.inr h)
      · exact .inr (.inl h)
      · exact .inr (.inr h)
    have := List.all_eq_true.mp hfree x hm
    rw [hn] at this
    simp only [Option.isSome_none, Bool.false_or, Bool.and_eq_true, bne_iff_ne, ne_eq, Bool.not_eq_true', Bool.or_eq_false_iff] at this
    obtain ⟨h0, ⟨⟨⟨h1, h2⟩, h3⟩, h4⟩, h5⟩ := this
    have no : ∀ {l : List Str}, l.contains x = false → x ∉ l := fun h hm => by rw [List.contains_iff_mem.mpr hm] at h; cases h
    exact ⟨T.free x (no h1) (no h2) (no h3) (no h4) (no h5), T.builtins x h0⟩
  · obtain ⟨o, fd, _, _, h1, h2, _⟩ := fa k fn h
    exact ⟨o, fd, h1, h2⟩
theorem VR_script {P : Params} {a : Addr} {ns : List Int} (W : Well P S.hb (.ref a) (ofPy (.list (ns.map PyData.int)))) (hl : ns.length ≤ LIM) : VR S [] [] S.hb (.lst (ns.map V.int)) (.ref a) := by
  have key : ∀ {vs : List Value} {l : List Int}, WellAll P S.hb vs (ofPys (l.map PyData.int)) → VRs S [] [] S.hb (l.map V.int) vs := by
    intro vs l
    induction l generalizing vs with
    | nil => intro h; cases h; rw [List.map_nil, VRs]; trivial
    | cons n l ih =>
      intro h
      cases h with
      | cons h1 h2 =>
        cases h1
        rw [List.map_cons, VRs]
        exact ⟨by rw [VR]; exact ⟨_, rfl⟩, ih h2⟩
  cases W with
  | list h1 h2 =>
    rw [VR]
    exact ⟨a, _, _, rfl, ⟨by simp [addrs], by simp⟩, h1, key h2, by simpa using hl⟩
theorem law_call (fs : Facts S C (fun k => tab.lookup k)) (cl : Clean C) (fa : ∀ k fn, tab.lookup k = some fn → FnAt S C k fn) {s₁ : Shared} (hS : S.hb = s₁.heap) {ns : List Int} {a : Addr} {k d : Nat} (hd : d ≤ 100)
    (hv : VR S [] [] S.hb (.lst (ns.map V.int)) (.ref a)) (hres : ∃ σ', callFn (fun k => tab.lookup k) d false k [.lst (ns.map V.int)] [] = .ok (.bool true) σ') :
    codeAny (model S.prog S.w) callerA (.call (.ref (S.fn k)) ⟨[.ref a], []⟩) (fun r s' => r = .ok (.ret (.bool true)) ∧ (∀ b o, s₁.heap.get? b = some o → s'.heap.get? b = some o) ∧ s'.os = s₁.os ∧ s'.gens = s₁.gens) s₁ := by
  obtain ⟨σ', hres⟩ := hres
  have L : Lk S [] [] [] s₁.heap := ⟨fun b o h => hS ▸ h, rfl, .nil, (fun a h => nomatch h), (fun a h => nomatch h), fun i l o h => by simp at h⟩
  have cx : CxC S callerA false d [] s₁.heap := ⟨by show 1 + claimMargin + 2 * d + 2 ≤ 900; simp only [claimMargin]; omega, by show 4 + 5 * d + 200 ≤ 9900; omega, fun _ => rfl, [], rfl, fun _ h => nomatch h⟩
  have := (zDB fs cl fa d false k [.lst (ns.map V.int)] [] [] [] callerA s₁ [.ref a] cx L (by rw [VRs, VRs]; exact ⟨hS ▸ hv, trivial⟩) (by rw [hres]; simp)).2
  refine codeAny_mono this fun r s' h => ?_
  match r, h with
  | .ok (.ret v), h =>
    obtain ⟨b, σ'', g, e, hg, kp, L', p⟩ := h
    rw [hres] at e
    cases e
    have hv : v = .bool true := by have : VR _ _ _ _ _ _ := p; rwa [VR] at this
    refine ⟨by rw [hv], fun b o h => L'.base b o (hS ▸ h), ?_, ?_⟩
    · rw [kp.rest]
    · rw [kp.rest]
  | .error e, h =>
    obtain ⟨c, σ'', g, ea, e1, e2, hgE, kE, LE, xE⟩ := h
    rw [hres] at e2
    cases e2
end
theorem law_raises (l : OpenLaw) (args : List WData) (cls : ExcName) : l.row.claim.raises args cls = false := rfl
theorem law_post (l : OpenLaw) (args : List WData) : l.row.claim.post args (.bool true) args = true :=
  postW_of (X := true) (by rfl) (by wtm_val) rfl
theorem law_good (l : OpenLaw) {args : List WData} {c : Str → Option Addr} {mean : ExcName → Option Value} {s₁ s' : Shared} (hk : ∀ b o, s₁.heap.get? b = some o → s'.heap.get? b = some o) (hos : s'.os = s₁.os) (hg : s₁.gens = #[]) (hgs : s'.gens = s₁.gens) :
    GoodWG l.row.claim c mean args s₁ (.ok (.ret (.bool true))) s' :=
  ⟨.inl ⟨_, .bool true, [], rfl, law_raises l args, .bool true, law_post l args, fun _ => ⟨.nil, fun _ h => nomatch h⟩⟩, .of_keep hk, hos, fun y hy => by rw [hgs, hg] at hy; simp at hy⟩
end Mine
end

/-! # Plain2 -/
section
set_option autoImplicit false
namespace Mine
open PySem
section
variable {F Fq : Calls} {q : Bool} {ρ ρ' : List V} {σ σ' σ₁ σ₂ σ₃ : Sto} {rest A B : List CS} {r : R Fl} {v x y z : V} {c e a b : CE} {i : Nat}
@[simp] theorem fnEnd_ret (v : V) : fnEnd (.ret v) σ = .ok v σ := rfl
@[simp] theorem fnEnd_next : fnEnd (.next ρ) σ = .ok .none σ := rfl
noncomputable def thenL (F Fq : Calls) (q : Bool) (ss : List CS) (fl : Fl) (σ : Sto) : R Fl :=
  match fl with
  | .next ρ => exL F Fq q ss ρ σ
  | .ret v => .ok (.ret v) σ
theorem zAg (s : CS) : exL F Fq q (s :: rest) ρ σ = (exS F Fq q s ρ σ).bind (thenL F Fq q rest) := by
  rw [x_lcons]
  cases exS F Fq q s ρ σ with
  | ok fl σ => cases fl <;> rfl
  | _ => rfl
theorem zCx : ∀ (A rest : List CS) (ρ : List V) (σ : Sto), exL F Fq q (A ++ rest) ρ σ = (exL F Fq q A ρ σ).bind (thenL F Fq q rest)
  | [], _, _, _ => rfl
  | s :: A, rest, ρ, σ => by
    rw [List.cons_append, zAg, zAg]
    cases exS F Fq q s ρ σ with
    | ok fl σ =>
      cases fl with
      | next ρ => exact zCx A rest ρ σ
      | ret v => rfl
    | _ => rfl
theorem s_asg (h : evE F q e ρ σ = .ok v σ') (k : exL F Fq q rest (ρ.set i v) σ' = r) : exL F Fq q (.asg i e :: rest) ρ σ = r := by
  rw [zAg, x_asg, h]; exact k
theorem s_exp (h : evE F q e ρ σ = .ok v σ') (k : exL F Fq q rest ρ σ' = r) : exL F Fq q (.exp e :: rest) ρ σ = r := by
  rw [zAg, x_exp, h]; exact k
theorem s_expX {c : Cls} (h : evE F q e ρ σ = .exc c σ') : exL F Fq q (.exp e :: rest) ρ σ = .exc c σ' := by
  rw [zAg, x_exp, h]; rfl
theorem s_ret (h : evE F q e ρ σ = .ok v σ') : exL F Fq q (.ret e :: rest) ρ σ = .ok (.ret v) σ' := by
  rw [zAg, x_ret, h]; rfl
theorem s_retX {c : Cls} (h : evE F q e ρ σ = .exc c σ') : exL F Fq q (.ret e :: rest) ρ σ = .exc c σ' := by
  rw [zAg, x_ret, h]; rfl
theorem s_t (h : evC F q (some c) ρ σ = .ok true σ') (k : exL F Fq q (A ++ rest) ρ σ' = r) : exL F Fq q (.ite c A B :: rest) ρ σ = r := by
  rw [zCx] at k
  rw [zAg, x_ite]
  rw [zFD] at h
  cases hc : evE F q c ρ σ with
  | ok v σ₁ =>
    rw [hc, R.bind_ok] at h
    rw [R.bind_ok]
    cases ht : truthy σ₁ v with
    | none => rw [ht] at h; cases h
    | some t => rw [ht] at h; cases h; exact k
  | exc _ _ => rw [hc] at h; cases h
  | stuck => rw [hc] at h; cases h
theorem s_f (h : evC F q (some c) ρ σ = .ok false σ') (k : exL F Fq q (B ++ rest) ρ σ' = r) : exL F Fq q (.ite c A B :: rest) ρ σ = r := by
  rw [zCx] at k
  rw [zAg, x_ite]
  rw [zFD] at h
  cases hc : evE F q c ρ σ with
  | ok v σ₁ =>
    rw [hc, R.bind_ok] at h
    rw [R.bind_ok]
    cases ht : truthy σ₁ v with
    | none => rw [ht] at h; cases h
    | some t => rw [ht] at h; cases h; exact k
  | exc _ _ => rw [hc] at h; cases h
  | stuck => rw [hc] at h; cases h
theorem s_nil : exL F Fq q [] ρ σ = .ok (.next ρ) σ := rfl
theorem s_setItem {o i v : CE} {a b x : V} (hv : evE F q v ρ σ = .ok x σ₁) (ho : evE F q o ρ σ₁ = .ok a σ₂) (hi : evE F q i ρ σ₂ = .ok b σ₃) (h : doSetItem σ₃ a b x = .ok () σ') (k : exL F Fq q rest ρ σ' = r) : exL F Fq q (.setItem o i v :: rest) ρ σ = r := by
  rw [zAg, zFU, hv, R.bind_ok, ho, R.bind_ok, hi, R.bind_ok, h]; exact k
theorem t_of {t : Bool} (h : evE F q c ρ σ = .ok v σ') (ht : truthy σ' v = some t) : evC F q (some c) ρ σ = .ok t σ' := by
  rw [zFD, h, R.bind_ok, ht]; rfl
theorem zAC {t : Bool} (h : evE F q c ρ σ = .ok (.bool t) σ') : evC F q (some c) ρ σ = .ok t σ' := t_of h rfl
theorem e_p1 {o : P1} (ha : evE F q a ρ σ = .ok x σ₁) (h : ev1 o σ₁ x = some z) (hl : (loud1 o && q) = false := by rfl) : evE F q (.p1 o a) ρ σ = .ok z σ₁ := by
  rw [x_p1, hl, ha, R.bind_ok, h]; rfl
theorem e_p2 {o : P2} (ha : evE F q a ρ σ = .ok x σ₁) (hb : evE F q b ρ σ₁ = .ok y σ₂) (h : ev2 o σ₂ x y = some z) (hl : (loud2 o && q) = false := by rfl) : evE F q (.p2 o a b) ρ σ = .ok z σ₂ := by
  rw [x_p2, hl, ha, R.bind_ok, hb, R.bind_ok, h]; rfl
theorem e_and_f (ha : evE F q a ρ σ = .ok x σ₁) (ht : truthy σ₁ x = some false) : evE F q (.and a b) ρ σ = .ok x σ₁ := by
  rw [x_and, ha, R.bind_ok, ht]; rfl
theorem zBb {r : R V} (ha : evE F q a ρ σ = .ok x σ₁) (ht : truthy σ₁ x = some true) (hb : evE F q b ρ σ₁ = r) : evE F q (.and a b) ρ σ = r := by
  rw [x_and, ha, R.bind_ok, ht]; exact hb
theorem e_or_t (ha : evE F q a ρ σ = .ok x σ₁) (ht : truthy σ₁ x = some true) : evE F q (.or a b) ρ σ = .ok x σ₁ := by
  rw [x_or, ha, R.bind_ok, ht]; rfl
theorem zAh {r : R V} (ha : evE F q a ρ σ = .ok x σ₁) (ht : truthy σ₁ x = some false) (hb : evE F q b ρ σ₁ = r) : evE F q (.or a b) ρ σ = r := by
  rw [x_or, ha, R.bind_ok, ht]; exact hb
theorem zAI {f : Nat} {args : List CE} {vs : List V} {r : R V} (ha : evL F q args ρ σ = .ok vs σ₁) (h : F f vs σ₁ = r) : evE F q (.call f args) ρ σ = r := by
  rw [x_call, ha]; exact h
theorem zAM {f : Nat} {args : List CE} {vs : List V} {r : R V} (ho : evE F q a ρ σ = .ok x σ₁) (hi : isInst σ₁ x = true) (ha : evL F q args ρ σ₁ = .ok vs σ₂) (h : F f (x :: vs) σ₂ = r) : evE F q (.callm f a args) ρ σ = r := by
  rw [x_callm, ho, R.bind_ok, if_pos hi, ha]; exact h
theorem zAB {es : List CE} {vs : List V} (h : evE F q e ρ σ = .ok v σ₁) (hs : evL F q es ρ σ₁ = .ok vs σ₂) : evL F q (e :: es) ρ σ = .ok (v :: vs) σ₂ := by
  rw [zHT, h, R.bind_ok, hs]; rfl
theorem e_tup {es : List CE} {vs : List V} (h : evL F q es ρ σ = .ok vs σ₁) : evE F q (.tup es) ρ σ = .ok (.tup vs) σ₁ := by rw [x_tup, h]; rfl
theorem zGZ {es : List CE} {vs : List V} (h : evL F q es ρ σ = .ok vs σ₁) : evE F q (.list es) ρ σ = .ok (.lst vs) σ₁ := by rw [x_list, h]; rfl
theorem e_attr {k : Nat} (h : evE F q a ρ σ = .ok x σ₁) (hv : doAttr σ₁ x k = some v) : evE F q (.attr a k) ρ σ = .ok v σ₁ := by
  rw [x_attr, h, R.bind_ok, hv]; rfl
theorem zAp (hl : evE F q a ρ σ = .ok x σ₁) (hi : isListV σ₁ x = true) (hx : evE F q b ρ σ₁ = .ok y σ₂) (h : doAppend σ₂ x y = .ok v σ') : evE F q (.append a b) ρ σ = .ok v σ' := by
  rw [zHU, hl, R.bind_ok, if_pos hi, hx]; exact h
end
section
variable {T : Nat → Option Fn} {d k : Nat} {q : Bool} {fn : Fn} {args : List V} {σ σ' : Sto}
theorem zAk {c : Cls} (h : T k = some fn) (hl : args.length = fn.params) (hx : exL (callFn T d q) (callFn T d true) q fn.body (args ++ List.replicate (fn.slots - fn.params) .undef) σ = .exc c σ') : callFn T (d + 1) q k args σ = .exc c σ' := by
  rw [zBt, h]; simp only [hl, if_true, hx]; rfl
theorem zBd {ρ : List V} (h : T k = some fn) (hl : args.length = fn.params) (hx : exL (callFn T d q) (callFn T d true) q fn.body (args ++ List.replicate (fn.slots - fn.params) .undef) σ = .ok (.next ρ) σ') : callFn T (d + 1) q k args σ = .ok .none σ' := by
  rw [zBt, h]; simp only [hl, if_true, hx]; rfl
end
end Mine
end

/-! # PB -/
section
set_option autoImplicit false
namespace Mine
open PySem
noncomputable def tr (t : Bool) (e : CE) : CE := match t with
  | true => .trk e
  | false => e
noncomputable def fB_20 : Fn := { params := 3, slots := 3, body := [CS.ret (CE.p2 P2.fdiv (CE.p2 P2.mul (CE.var 0) (CE.var 1)) (CE.var 2))] }
noncomputable def fB_21 : Fn := { params := 1, slots := 1, body := [CS.ite (CE.or (CE.p1 P1.not (CE.p1 (P1.isInst Kd.str) (CE.var 0))) (CE.p1 P1.not (CE.chain (CE.lit (V.int 1)) [P2.le, P2.le] [CE.p1 P1.len (CE.var 0),CE.lit (V.int 12)]))) [CS.ret (CE.lit (V.bool false))] [],CS.ret (CE.p1 P1.all (CE.comp (CE.p2 P2.isIn (CE.var 1) (CE.lit (V.str { cps := #[97,98,99,100,101,102,103,104,105,106,107,108,109,110,111,112,113,114,115,116,117,118,119,120,121,122] }))) SK.val [CE.var 0] none))] }
noncomputable def fB_22 : Fn := { params := 1, slots := 2, body := [CS.ite (CE.p1 P1.not (CE.chain (CE.lit (V.int 1)) [P2.le, P2.le] [CE.p1 P1.len (CE.var 0),CE.lit (V.int 20)])) [CS.raise (Cls.NoLines)] [],CS.for 1 SK.val [CE.var 0] [CS.ite (CE.p1 P1.not (CE.call 21 [CE.p2 P2.index (CE.var 1) (CE.lit (V.int 0))])) [CS.raise (Cls.NoItem)] [],CS.ite (CE.or (CE.p1 P1.not (CE.chain (CE.lit (V.int 1)) [P2.le, P2.le] [CE.p2 P2.index (CE.var 1) (CE.lit (V.int 1)),CE.lit (V.int 1000000)])) (CE.or (CE.p1 P1.not (CE.chain (CE.lit (V.int 0)) [P2.le, P2.le] [CE.p2 P2.index (CE.var 1) (CE.lit (V.int 2)),CE.lit (V.int 1000000000)])) (CE.p1 P1.not (CE.chain (CE.lit (V.int 1)) [P2.le, P2.le] [CE.p2 P2.index (CE.var 1) (CE.lit (V.int 3)),CE.lit (V.int 1000)])))) [CS.raise (Cls.NoNumber)] []]] }
noncomputable def fB_23 : Fn := { params := 1, slots := 1, body := [CS.ret (CE.tup [CE.p2 P2.index (CE.var 0) (CE.lit (V.int 0)),CE.p2 P2.index (CE.var 0) (CE.lit (V.int 1)),CE.p2 P2.index (CE.var 0) (CE.lit (V.int 2)),CE.p2 P2.index (CE.var 0) (CE.lit (V.int 3)),CE.lit (V.int 0),CE.lit (V.int 0),CE.lit (V.int 0),CE.lit (V.int 0)])] }
noncomputable def fB_24 : Fn := { params := 1, slots := 1, body := [CS.ret (CE.p2 P2.sub (CE.call 20 [CE.p2 P2.sub (CE.p2 P2.index (CE.var 0) (CE.lit (V.int 4))) (CE.p2 P2.index (CE.var 0) (CE.lit (V.int 5))),CE.p2 P2.index (CE.var 0) (CE.lit (V.int 2)),CE.p2 P2.index (CE.var 0) (CE.lit (V.int 3))]) (CE.p2 P2.index (CE.var 0) (CE.lit (V.int 7))))] }
noncomputable def fB_25 : Fn := { params := 2, slots := 2, body := [CS.ite (CE.p2 P2.eq (CE.var 0) (CE.lit (V.str { cps := #[100,101,108,105,118,101,114] }))) [CS.ret (CE.p2 P2.add (CE.p2 P2.sub (CE.p2 P2.index (CE.var 1) (CE.lit (V.int 1))) (CE.p2 P2.index (CE.var 1) (CE.lit (V.int 4)))) (CE.p2 P2.index (CE.var 1) (CE.lit (V.int 6))))] [],CS.ite (CE.p2 P2.eq (CE.var 0) (CE.lit (V.str { cps := #[99,114,101,100,105,116] }))) [CS.ret (CE.call 24 [CE.var 1])] [],CS.ret (CE.p2 P2.sub (CE.p2 P2.index (CE.var 1) (CE.lit (V.int 4))) (CE.p2 P2.index (CE.var 1) (CE.lit (V.int 5))))] }
noncomputable def fB_26 : Fn := { params := 3, slots := 7, body := [CS.asg 3 (CE.p2 P2.index (CE.var 1) (CE.lit (V.int 4))),CS.asg 4 (CE.p2 P2.index (CE.var 1) (CE.lit (V.int 5))),CS.asg 5 (CE.p2 P2.index (CE.var 1) (CE.lit (V.int 6))),CS.asg 6 (CE.p2 P2.index (CE.var 1) (CE.lit (V.int 7))),CS.ite (CE.p2 P2.eq (CE.var 0) (CE.lit (V.str { cps := #[100,101,108,105,118,101,114] }))) [CS.asg 3 (CE.p2 P2.add (CE.var 3) (CE.var 2))] [CS.ite (CE.p2 P2.eq (CE.var 0) (CE.lit (V.str { cps := #[99,114,101,100,105,116] }))) [CS.asg 6 (CE.p2 P2.add (CE.var 6) (CE.var 2))] [CS.asg 4 (CE.p2 P2.add (CE.var 4) (CE.var 2)),CS.ite (CE.p2 P2.eq (CE.var 0) (CE.lit (V.str { cps := #[115,119,97,112] }))) [CS.asg 5 (CE.p2 P2.add (CE.var 5) (CE.var 2))] [],CS.asg 6 (CE.p2 P2.min (CE.var 6) (CE.call 20 [CE.p2 P2.sub (CE.var 3) (CE.var 4),CE.p2 P2.index (CE.var 1) (CE.lit (V.int 2)),CE.p2 P2.index (CE.var 1) (CE.lit (V.int 3))]))]],CS.ret (CE.p2 P2.add (CE.slice (CE.var 1) none (some (CE.lit (V.int 4)))) (CE.tup [CE.var 3,CE.var 4,CE.var 5,CE.var 6]))] }
noncomputable def fB_0 : Fn := { params := 1, slots := 1, body := [CS.setAttr (CE.var 0) 0 (CE.trk (CE.list [])),CS.setAttr (CE.var 0) 1 (CE.trk (CE.list []))] }
noncomputable def fB_1 : Fn := { params := 2, slots := 2, body := [CS.ite (CE.p1 P1.not (CE.chain (CE.lit (V.int 0)) [P2.le, P2.lt] [CE.var 1,CE.p1 P1.len (CE.attr (CE.var 0) 0)])) [CS.raise (Cls.NoOrder)] []] }
noncomputable def fB_2 : Fn := { params := 2, slots := 2, body := [CS.ite (CE.or (CE.p2 P2.eq (CE.p1 P1.len (CE.var 1)) (CE.lit (V.int 0))) (CE.or (CE.p2 P2.notIn (CE.p2 P2.index (CE.var 1) (CE.lit (V.int 0))) (CE.lit (V.parts))) (CE.p2 P2.ne (CE.p1 P1.len (CE.var 1)) (CE.p2 P2.index (CE.lit (V.parts)) (CE.p2 P2.index (CE.var 1) (CE.lit (V.int 0))))))) [CS.raise (Cls.NoDeed)] [],CS.ite (CE.p2 P2.eq (CE.p2 P2.index (CE.var 1) (CE.lit (V.int 0))) (CE.lit (V.str { cps := #[111,114,100,101,114] }))) [CS.ret (CE.callm 3 (CE.var 0) [CE.p2 P2.index (CE.var 1) (CE.lit (V.int 1))])] [],CS.exp (CE.callm 4 (CE.var 0) [CE.var 1]),CS.ret (CE.callm 6 (CE.var 0) [CE.var 1])] }
noncomputable def fB_3 (t : Bool) : Fn := { params := 2, slots := 2, body := [CS.exp (CE.call 22 [CE.var 1]),CS.ite (CE.p2 P2.ge (CE.p1 P1.len (CE.attr (CE.var 0) 0)) (CE.lit (V.int 40))) [CS.raise (Cls.FullBook)] [],CS.exp (CE.append (CE.attr (CE.var 0) 0) (CE.tup [CE.p1 P1.toTup (CE.comp (CE.call 23 [CE.var 2]) SK.val [CE.var 1] none),CE.lit (V.int 0),CE.tup []])),CS.exp (CE.append (CE.attr (CE.var 0) 1) (CE.tup [CE.tup [CE.lit (V.str { cps := #[111,114,100,101,114] }),CE.p1 P1.toList (CE.var 1)],CE.dict0])),CS.ret (tr t (CE.list []))] }
noncomputable def fB_4 : Fn := { params := 2, slots := 2, body := [CS.exp (CE.callm 1 (CE.var 0) [CE.p2 P2.index (CE.var 1) (CE.lit (V.int 1))]),CS.ite (CE.p2 P2.eq (CE.p2 P2.index (CE.var 1) (CE.lit (V.int 0))) (CE.lit (V.str { cps := #[109,111,118,101] }))) [CS.exp (CE.callm 1 (CE.var 0) [CE.p2 P2.index (CE.var 1) (CE.lit (V.int 2))]),CS.ite (CE.p2 P2.eq (CE.p2 P2.index (CE.var 1) (CE.lit (V.int 1))) (CE.p2 P2.index (CE.var 1) (CE.lit (V.int 2)))) [CS.raise (Cls.SameOrder)] []] [],CS.ite (CE.and (CE.p2 P2.isIn (CE.p2 P2.index (CE.var 1) (CE.lit (V.int 0))) (CE.lit (V.tup [V.str { cps := #[100,101,108,105,118,101,114] }, V.str { cps := #[98,97,99,107] }, V.str { cps := #[115,119,97,112] }, V.str { cps := #[99,114,101,100,105,116] }]))) (CE.p1 P1.not (CE.chain (CE.lit (V.int 0)) [P2.le, P2.lt] [CE.p2 P2.index (CE.var 1) (CE.lit (V.int 2)),CE.p1 P1.len (CE.p2 P2.index (CE.p2 P2.index (CE.attr (CE.var 0) 0) (CE.p2 P2.index (CE.var 1) (CE.lit (V.int 1)))) (CE.lit (V.int 0)))]))) [CS.raise (Cls.NoLine)] [],CS.ite (CE.p2 P2.lt (CE.p2 P2.index (CE.var 1) (CE.p1 P1.neg (CE.lit (V.int 1)))) (CE.lit (V.int 1))) [CS.raise (Cls.NoNumber)] [],CS.ite (CE.and (CE.p2 P2.ne (CE.p2 P2.index (CE.var 1) (CE.lit (V.int 0))) (CE.lit (V.str { cps := #[112,97,121] }))) (CE.p2 P2.gt (CE.p2 P2.index (CE.var 1) (CE.p1 P1.neg (CE.lit (V.int 1)))) (CE.callm 5 (CE.var 0) [CE.var 1]))) [CS.raise (Cls.TooMuch)] []] }
noncomputable def fB_5 : Fn := { params := 2, slots := 2, body := [CS.ite (CE.p2 P2.isIn (CE.p2 P2.index (CE.var 1) (CE.lit (V.int 0))) (CE.lit (V.tup [V.str { cps := #[100,101,108,105,118,101,114] }, V.str { cps := #[98,97,99,107] }, V.str { cps := #[115,119,97,112] }, V.str { cps := #[99,114,101,100,105,116] }]))) [CS.ret (CE.call 25 [CE.p2 P2.index (CE.var 1) (CE.lit (V.int 0)),CE.p2 P2.index (CE.p2 P2.index (CE.p2 P2.index (CE.attr (CE.var 0) 0) (CE.p2 P2.index (CE.var 1) (CE.lit (V.int 1)))) (CE.lit (V.int 0))) (CE.p2 P2.index (CE.var 1) (CE.lit (V.int 2)))])] [],CS.ret (CE.p2 P2.sub (CE.lit (V.int 0)) (CE.callm 13 (CE.var 0) [CE.p2 P2.index (CE.var 1) (CE.lit (V.int 1))]))] }
noncomputable def fB_6 (t : Bool) : Fn := { params := 2, slots := 5, body := [CS.asg 2 (CE.p2 P2.index (CE.var 1) (CE.lit (V.int 0))),CS.asg 3 (CE.p2 P2.index (CE.var 1) (CE.p1 P1.neg (CE.lit (V.int 1)))),CS.asg 4 (CE.dict1 (CE.p2 P2.index (CE.var 1) (CE.lit (V.int 1))) (CE.p2 P2.index (CE.attr (CE.var 0) 0) (CE.p2 P2.index (CE.var 1) (CE.lit (V.int 1))))),CS.ite (CE.p2 P2.eq (CE.var 2) (CE.lit (V.str { cps := #[109,111,118,101] }))) [CS.setItem (CE.var 4) (CE.p2 P2.index (CE.var 1) (CE.lit (V.int 2))) (CE.p2 P2.index (CE.attr (CE.var 0) 0) (CE.p2 P2.index (CE.var 1) (CE.lit (V.int 2))))] [],CS.exp (CE.append (CE.attr (CE.var 0) 1) (CE.tup [CE.var 1,CE.var 4])),CS.ite (CE.p2 P2.eq (CE.var 2) (CE.lit (V.str { cps := #[109,111,118,101] }))) [CS.ret (tr t (CE.list [CE.callm 7 (CE.var 0) [CE.p2 P2.index (CE.var 1) (CE.lit (V.int 1)),CE.var 2,CE.p2 P2.sub (CE.lit (V.int 0)) (CE.var 3)],CE.callm 7 (CE.var 0) [CE.p2 P2.index (CE.var 1) (CE.lit (V.int 2)),CE.var 2,CE.var 3]]))] [],CS.ite (CE.p2 P2.eq (CE.var 2) (CE.lit (V.str { cps := #[112,97,121] }))) [CS.ret (tr t (CE.list [CE.callm 7 (CE.var 0) [CE.p2 P2.index (CE.var 1) (CE.lit (V.int 1)),CE.var 2,CE.var 3]]))] [],CS.ite (CE.p2 P2.eq (CE.var 2) (CE.lit (V.str { cps := #[114,101,102,117,110,100] }))) [CS.ret (tr t (CE.list [CE.callm 7 (CE.var 0) [CE.p2 P2.index (CE.var 1) (CE.lit (V.int 1)),CE.var 2,CE.p2 P2.sub (CE.lit (V.int 0)) (CE.var 3)]]))] [],CS.ret (tr t (CE.list [CE.callm 8 (CE.var 0) [CE.p2 P2.index (CE.var 1) (CE.lit (V.int 1)),CE.p2 P2.index (CE.var 1) (CE.lit (V.int 2)),CE.var 2,CE.var 3]]))] }
noncomputable def fB_7 : Fn := { params := 4, slots := 5, body := [CS.asg 4 (CE.p2 P2.index (CE.attr (CE.var 0) 0) (CE.var 1)),CS.setItem (CE.attr (CE.var 0) 0) (CE.var 1) (CE.tup [CE.p2 P2.index (CE.var 4) (CE.lit (V.int 0)),CE.p2 P2.add (CE.p2 P2.index (CE.var 4) (CE.lit (V.int 1))) (CE.var 3),CE.p2 P2.add (CE.p2 P2.index (CE.var 4) (CE.lit (V.int 2))) (CE.tup [CE.tup [CE.var 2,CE.p2 P2.sub (CE.lit (V.int 0)) (CE.var 3)]])]),CS.ret (CE.tup [CE.var 1,CE.p2 P2.sub (CE.lit (V.int 0)) (CE.var 3)])] }
noncomputable def fB_8 : Fn := { params := 5, slots := 10, body := [CS.asg 5 (CE.p2 P2.index (CE.attr (CE.var 0) 0) (CE.var 1)),CS.asg 6 (CE.p2 P2.index (CE.p2 P2.index (CE.var 5) (CE.lit (V.int 0))) (CE.var 2)),CS.asg 7 (CE.call 26 [CE.var 3,CE.var 6,CE.var 4]),CS.asg 8 (CE.p2 P2.sub (CE.call 24 [CE.var 7]) (CE.call 24 [CE.var 6])),CS.asg 9 (CE.p2 P2.add (CE.p2 P2.add (CE.slice (CE.p2 P2.index (CE.var 5) (CE.lit (V.int 0))) none (some (CE.var 2))) (CE.tup [CE.var 7])) (CE.slice (CE.p2 P2.index (CE.var 5) (CE.lit (V.int 0))) (some (CE.p2 P2.add (CE.var 2) (CE.lit (V.int 1)))) none)),CS.setItem (CE.attr (CE.var 0) 0) (CE.var 1) (CE.tup [CE.var 9,CE.p2 P2.index (CE.var 5) (CE.lit (V.int 1)),CE.p2 P2.add (CE.p2 P2.index (CE.var 5) (CE.lit (V.int 2))) (CE.tup [CE.tup [CE.var 3,CE.var 8]])]),CS.ret (CE.tup [CE.var 1,CE.var 8])] }
noncomputable def fB_10 : Fn := { params := 1, slots := 1, body := [CS.ret (CE.p1 P1.len (CE.attr (CE.var 0) 0))] }
noncomputable def fB_11 : Fn := { params := 2, slots := 2, body := [CS.exp (CE.callm 1 (CE.var 0) [CE.var 1]),CS.ret (CE.comp (CE.tup [CE.p2 P2.index (CE.var 2) (CE.lit (V.int 0)),CE.p2 P2.index (CE.var 2) (CE.lit (V.int 1)),CE.p2 P2.index (CE.var 2) (CE.lit (V.int 4)),CE.p2 P2.index (CE.var 2) (CE.lit (V.int 5)),CE.p2 P2.index (CE.var 2) (CE.lit (V.int 6)),CE.p2 P2.index (CE.var 2) (CE.lit (V.int 7))]) SK.val [CE.p2 P2.index (CE.p2 P2.index (CE.attr (CE.var 0) 0) (CE.var 1)) (CE.lit (V.int 0))] none)] }
noncomputable def fB_12 : Fn := { params := 2, slots := 2, body := [CS.exp (CE.callm 1 (CE.var 0) [CE.var 1]),CS.ret (CE.p2 P2.index (CE.p2 P2.index (CE.attr (CE.var 0) 0) (CE.var 1)) (CE.lit (V.int 1)))] }
noncomputable def fB_13 : Fn := { params := 2, slots := 2, body := [CS.exp (CE.callm 1 (CE.var 0) [CE.var 1]),CS.ret (CE.p2 P2.sub (CE.p1 P1.sum (CE.comp (CE.call 24 [CE.var 2]) SK.val [CE.p2 P2.index (CE.p2 P2.index (CE.attr (CE.var 0) 0) (CE.var 1)) (CE.lit (V.int 0))] none)) (CE.p2 P2.index (CE.p2 P2.index (CE.attr (CE.var 0) 0) (CE.var 1)) (CE.lit (V.int 1))))] }
noncomputable def fB_14 : Fn := { params := 2, slots := 2, body := [CS.exp (CE.callm 1 (CE.var 0) [CE.var 1]),CS.ret (CE.p1 P1.toList (CE.p2 P2.index (CE.p2 P2.index (CE.attr (CE.var 0) 0) (CE.var 1)) (CE.lit (V.int 2))))] }
structure BookTab (T : Nat → Option Fn) (t : Bool := false) : Prop where
  b0 : T 0 = some fB_0
  b1 : T 1 = some fB_1
  b2 : T 2 = some fB_2
  b3 : T 3 = some (fB_3 t)
  b4 : T 4 = some fB_4
  b5 : T 5 = some fB_5
  b6 : T 6 = some (fB_6 t)
  b7 : T 7 = some fB_7
  b8 : T 8 = some fB_8
  b10 : T 10 = some fB_10
  b12 : T 12 = some fB_12
  b13 : T 13 = some fB_13
  b14 : T 14 = some fB_14
  b20 : T 20 = some fB_20
  b21 : T 21 = some fB_21
  b22 : T 22 = some fB_22
  b23 : T 23 = some fB_23
  b24 : T 24 = some fB_24
  b25 : T 25 = some fB_25
  b26 : T 26 = some fB_26
end Mine
end

/-! # BkA -/
section
set_option autoImplicit false
namespace Mine
open PySem
structure Ln where
  item : Str
  p : Int
  c : Int
  k : Int
  s : Int
  b : Int
  a : Int
  r : Int
noncomputable def Ln.v (l : Ln) : V := .tup [.str l.item, .int l.p, .int l.c, .int l.k, .int l.s, .int l.b, .int l.a, .int l.r]
structure Ln.ok (l : Ln) : Prop where
  p1 : 1 ≤ l.p
  p2 : l.p ≤ 1000000
  c1 : 0 ≤ l.c
  c2 : l.c ≤ 1000000000
  k1 : 1 ≤ l.k
  k2 : l.k ≤ 1000
noncomputable def Ln.worth (l : Ln) : Int := ((l.s - l.b) * l.c).fdiv l.k
noncomputable def Ln.charge (l : Ln) : Int := l.worth - l.r
structure Or where
  lines : List Ln
  paid : Int
  rows : List (Str × Int)
noncomputable def rowV (r : Str × Int) : V := .tup [.str r.1, .int r.2]
noncomputable def Or.v (o : Or) : V := .tup [.tup (o.lines.map Ln.v), .int o.paid, .tup (o.rows.map rowV)]
noncomputable def Or.owed (o : Or) : Int := (o.lines.map Ln.charge).sum - o.paid
noncomputable def sDel : Str := { cps := #[100, 101, 108, 105, 118, 101, 114] }
noncomputable def sBack : Str := { cps := #[98, 97, 99, 107] }
noncomputable def sSwap : Str := { cps := #[115, 119, 97, 112] }
noncomputable def sCred : Str := { cps := #[99, 114, 101, 100, 105, 116] }
noncomputable def sPay : Str := { cps := #[112, 97, 121] }
noncomputable def sRef : Str := { cps := #[114, 101, 102, 117, 110, 100] }
noncomputable def sMove : Str := { cps := #[109, 111, 118, 101] }
noncomputable def sOrd : Str := { cps := #[111, 114, 100, 101, 114] }
inductive Wd where
  | del | back | swap | cred
noncomputable def Wd.s : Wd → Str
  | .del => sDel
  | .back => sBack
  | .swap => sSwap
  | .cred => sCred
noncomputable def mostOf (w : Wd) (l : Ln) : Int :=
  match w with
  | .del => l.p - l.s + l.a
  | .cred => l.charge
  | _ => l.s - l.b
noncomputable def pmin (x y : Int) : Int := if y < x then y else x
noncomputable def behindL (w : Wd) (l : Ln) (n : Int) : Ln :=
  match w with
  | .del => { l with s := l.s + n }
  | .cred => { l with r := l.r + n }
  | .back => { l with b := l.b + n, r := pmin l.r (((l.s - (l.b + n)) * l.c).fdiv l.k) }
  | .swap => { l with b := l.b + n, a := l.a + n, r := pmin l.r (((l.s - (l.b + n)) * l.c).fdiv l.k) }
theorem zGl {l : Ln} (h : l.ok) : smallFactor l.c = true := by
  have h1 := h.c1; have h2 := h.c2
  simp only [smallFactor, decide_eq_true_eq]
  omega
theorem div_ok {k : Int} (h1 : 1 ≤ k) (h2 : k ≤ 1000) : (k == 0 || decide (1073741824 ≤ k.natAbs)) = false := by
  rw [Bool.or_eq_false_iff, beq_eq_false_iff_ne, decide_eq_false_iff_not]
  omega
noncomputable def rv (t : Bool) (σ : Sto) (vs : List V) : V := match t with
  | true => .ref σ.length
  | false => .lst vs
noncomputable def rs (t : Bool) (σ : Sto) (vs : List V) : Sto := match t with
  | true => σ ++ [.list vs]
  | false => σ
theorem e_res {F : Calls} {q : Bool} {ρ : List V} {σ σ₁ : Sto} {t : Bool} {es : List CE} {vs : List V} (h : evL F q es ρ σ = .ok vs σ₁) : evE F q (tr t (.list es)) ρ σ = .ok (rv t σ₁ vs) (rs t σ₁ vs) := by
  cases t with
  | false => exact zGZ h
  | true =>
    show evE F q (.trk (.list es)) ρ σ = _
    rw [x_trk, zGZ h]; rfl
section
variable {T : Nat → Option Fn} {t : Bool} {d : Nat} {q : Bool} {σ : Sto}
theorem b_worth (HT : BookTab T t) {a c k : Int} (hc : smallFactor c = true) (hk : (k == 0 || decide (1073741824 ≤ k.natAbs)) = false) : callFn T (d + 1) q 20 [.int a, .int c, .int k] σ = .ok (.int ((a * c).fdiv k)) σ :=
  zAH HT.b20 rfl (s_ret (e_p2 (e_p2 rfl rfl (zBq σ a c (.inr hc))) rfl (zAe σ (a * c) k hk)))
theorem zDi (HT : BookTab T t) {l : Ln} (h : l.ok) : callFn T (d + 2) q 24 [l.v] σ = .ok (.int l.charge) σ :=
  zAH HT.b24 rfl (s_ret (e_p2 (zAI (vs := [.int (l.s - l.b), .int l.c, .int l.k]) rfl (b_worth HT (zGl h) (div_ok h.k1 h.k2))) rfl rfl))
theorem b_most_of (HT : BookTab T t) {l : Ln} (h : l.ok) (w : Wd) : callFn T (d + 3) q 25 [.str w.s, l.v] σ = .ok (.int (mostOf w l)) σ := by
  refine zAH HT.b25 rfl ?_
  cases w with
  | del => exact s_t rfl (s_ret rfl)
  | cred => exact s_f rfl (s_t rfl (s_ret (zAI rfl (zDi HT h))))
  | back => exact s_f rfl (s_f rfl (s_ret rfl))
  | swap => exact s_f rfl (s_f rfl (s_ret rfl))
theorem b_behind (HT : BookTab T t) {l : Ln} (h : l.ok) (w : Wd) (n : Int) : callFn T (d + 2) false 26 [.str w.s, l.v, .int n] σ = .ok (behindL w l n).v σ := by
  refine zAH HT.b26 rfl ?_
  refine s_asg (v := .int l.s) rfl (s_asg (v := .int l.b) rfl (s_asg (v := .int l.a) rfl (s_asg (v := .int l.r) rfl ?_)))
  have w20 : ∀ a : Int, callFn T (d + 1) false 20 [.int a, .int l.c, .int l.k] σ = .ok (.int ((a * l.c).fdiv l.k)) σ := fun a => b_worth HT (zGl h) (div_ok h.k1 h.k2)
  cases w with
  | del => exact s_t rfl (s_asg rfl (s_ret rfl))
  | cred => exact s_f rfl (s_t rfl (s_asg rfl (s_ret rfl)))
  | back => exact s_f rfl (s_f rfl (s_asg (v := .int (l.b + n)) rfl (s_f rfl (s_asg (e_p2 rfl (zAI rfl (w20 _)) rfl) (s_ret rfl)))))
  | swap => exact s_f rfl (s_f rfl (s_asg (v := .int (l.b + n)) rfl (s_t rfl (s_asg (v := .int (l.a + n)) rfl (s_asg (e_p2 rfl (zAI rfl (w20 _)) rfl) (s_ret rfl))))))
end
end Mine
end

/-! # BkB -/
section
set_option autoImplicit false
namespace Mine
open PySem
structure BookIn (σ : Sto) (b e h : Nat) (es hs : List V) : Prop where
  inst : σ[b]? = some (.inst [(1, .ref h), (0, .ref e)])
  ent : σ[e]? = some (.list es)
  his : σ[h]? = some (.list hs)
  ne : e ≠ h
theorem len_of {σ : Sto} {n : Nat} {xs : List V} (h : σ[n]? = some (.list xs)) : ev1 .len σ (.ref n) = some (.int xs.length) := zAw σ h
section
variable {T : Nat → Option Fn} {t : Bool} {F : Calls} {d : Nat} {q : Bool} {σ : Sto} {b e h : Nat} {es hs : List V} {ρ : List V}
theorem BookIn.isInst (B : BookIn σ b e h es hs) : isInst σ (.ref b) = true := by
  show (match σ[b]? with | some (.inst _) => true | _ => false) = true
  rw [B.inst]
theorem BookIn.a0 (B : BookIn σ b e h es hs) : doAttr σ (.ref b) 0 = some (.ref e) := by
  show attrO 0 σ[b]? = _
  rw [B.inst]; rfl
theorem BookIn.a1 (B : BookIn σ b e h es hs) : doAttr σ (.ref b) 1 = some (.ref h) := by
  show attrO 1 σ[b]? = _
  rw [B.inst]; rfl
theorem e_self (h0 : readVar ρ 0 = some (.ref b)) : evE F q (.var 0) ρ σ = .ok (.ref b) σ := by rw [x_var, h0]; rfl
theorem e_ent (B : BookIn σ b e h es hs) (h0 : readVar ρ 0 = some (.ref b)) : evE F q (.attr (.var 0) 0) ρ σ = .ok (.ref e) σ := e_attr (e_self h0) B.a0
theorem e_his (B : BookIn σ b e h es hs) (h0 : readVar ρ 0 = some (.ref b)) : evE F q (.attr (.var 0) 1) ρ σ = .ok (.ref h) σ := e_attr (e_self h0) B.a1
theorem zEv (B : BookIn σ b e h es hs) (h0 : readVar ρ 0 = some (.ref b)) : evE F q (.p1 .len (.attr (.var 0) 0)) ρ σ = .ok (.int es.length) σ := e_p1 (e_ent B h0) (len_of B.ent)
theorem zBs (B : BookIn σ b e h es hs) (h0 : readVar ρ 0 = some (.ref b)) {c : CE} {o : Nat} {v : V} (hc : evE F q c ρ σ = .ok (.int o) σ) (hv : es[o]? = some v) : evE F q (.p2 .index (.attr (.var 0) 0) c) ρ σ = .ok v σ :=
  e_p2 (e_ent B h0) hc (zAq σ B.ent hv)
theorem zDf {a b c : CE} {x y : Int} (ha : evE F q a ρ σ = .ok (.int 0) σ) (hb : evE F q b ρ σ = .ok (.int x) σ) (hc : evE F q c ρ σ = .ok (.int y) σ) : evE F q (.chain a [.le, .lt] [b, c]) ρ σ = .ok (.bool (decide (0 ≤ x) && decide (x < y))) σ := by
  rw [zDk, ha, R.bind_ok, x_ch2, hb]
  show (if decide (0 ≤ x) = true then evChain F q [P2.lt] [c] (.int x) ρ σ else .ok (.bool (decide (0 ≤ x))) σ) = _
  cases decide (0 ≤ x) with
  | false => rfl
  | true =>
    show evChain F q [P2.lt] [c] (.int x) ρ σ = _
    rw [x_ch1, hc]; rfl
theorem zGX {n : Nat} {o : Int} : (decide (0 ≤ o) && decide (o < (n : Int))) = true ↔ ∃ k : Nat, o = k ∧ k < n := by
  rw [Bool.and_eq_true, decide_eq_true_eq, decide_eq_true_eq]
  constructor
  · rintro ⟨h1, h2⟩; exact ⟨o.toNat, by omega, by omega⟩
  · rintro ⟨k, rfl, h⟩; omega
theorem b_need (HT : BookTab T t) (B : BookIn σ b e h es hs) {o : Nat} (ho : o < es.length) : callFn T (d + 1) q 1 [.ref b, .int o] σ = .ok .none σ :=
  zBd HT.b1 rfl (s_f (zAC (e_p1 (zDf rfl rfl (zEv B rfl)) (by rw [zGX.mpr ⟨o, rfl, ho⟩]; rfl))) rfl)
theorem b_needX (HT : BookTab T t) (B : BookIn σ b e h es hs) {o : Int} (ho : (decide (0 ≤ o) && decide (o < (es.length : Int))) = false) : callFn T (d + 1) false 1 [.ref b, .int o] σ = .exc .NoOrder σ :=
  zAk HT.b1 rfl (s_t (zAC (e_p1 (zDf rfl rfl (zEv B rfl)) (by rw [ho]; rfl))) rfl)
theorem zFf (HT : BookTab T t) (B : BookIn σ b e h es hs) (h0 : readVar ρ 0 = some (.ref b)) {c : CE} {o : Nat} (hc : evE (callFn T (d + 1) q) q c ρ σ = .ok (.int o) σ) (ho : o < es.length) {rest : List CS} {Fq : Calls} {r : R Fl} (k : exL (callFn T (d + 1) q) Fq q rest ρ σ = r) :
    exL (callFn T (d + 1) q) Fq q (.exp (.callm 1 (.var 0) [c]) :: rest) ρ σ = r :=
  s_exp (zAM (e_self h0) B.isInst (zAB hc rfl) (b_need HT B ho)) k
theorem s_needX (HT : BookTab T t) (B : BookIn σ b e h es hs) (h0 : readVar ρ 0 = some (.ref b)) {c : CE} {o : Int} (hc : evE (callFn T (d + 1) false) false c ρ σ = .ok (.int o) σ) (ho : (decide (0 ≤ o) && decide (o < (es.length : Int))) = false) {rest : List CS} {Fq : Calls} :
    exL (callFn T (d + 1) false) Fq false (.exp (.callm 1 (.var 0) [c]) :: rest) ρ σ = .exc .NoOrder σ :=
  s_expX (zAM (e_self h0) B.isInst (zAB hc rfl) (b_needX HT B ho))
theorem zFQ (HT : BookTab T t) (B : BookIn σ b e h es hs) : callFn T (d + 1) q 10 [.ref b] σ = .ok (.int es.length) σ :=
  zAH HT.b10 rfl (s_ret (zEv B rfl))
theorem b_paid (HT : BookTab T t) (B : BookIn σ b e h es hs) {o : Nat} {u : Or} (hu : es[o]? = some u.v) : callFn T (d + 2) q 12 [.ref b, .int o] σ = .ok (.int u.paid) σ :=
  zAH HT.b12 rfl (zFf HT B rfl rfl (List.getElem?_eq_some_iff.mp hu).1 (s_ret (e_p2 (zBs B rfl rfl hu) rfl rfl)))
theorem e_lines (B : BookIn σ b e h es hs) (h0 : readVar ρ 0 = some (.ref b)) {o : Nat} {u : Or} {ce : CE} {g : Ln → V} (h1 : readVar ρ 1 = some (.int o)) (hu : es[o]? = some u.v) (hl : u.lines.length < LIM)
    (hg : ∀ l ∈ u.lines, evE F false ce (ρ ++ [l.v]) σ = .ok (g l) σ) :
    evE F false (.comp ce .val [.p2 .index (.p2 .index (.attr (.var 0) 0) (.var 1)) (.lit (.int 0))] none) ρ σ = .ok (.lst (u.lines.map g)) σ := by
  have := zBf (F := F) (elt := ce) (k := .val) (src := [.p2 .index (.p2 .index (.attr (.var 0) 0) (.var 1)) (.lit (.int 0))]) (cond := none) (ρ := ρ) (σ := σ) (l := u.lines) (φ := Ln.v) (fun _ => true) g
    (zAB (e_p2 (o := .index) (b := .lit (.int 0)) (y := .int 0) (z := .tup (u.lines.map Ln.v)) (zBs B h0 (by rw [x_var, h1]; rfl) hu) rfl rfl) rfl) (zGx σ) (.inl rfl) hl (fun _ _ => rfl) (fun l hl _ => hg l hl)
  rwa [zBD] at this
theorem b_owed (HT : BookTab T t) (B : BookIn σ b e h es hs) {o : Nat} {u : Or} (hu : es[o]? = some u.v) (hl : u.lines.length < LIM) (hok : ∀ l ∈ u.lines, l.ok) : callFn T (d + 3) false 13 [.ref b, .int o] σ = .ok (.int u.owed) σ :=
  zAH HT.b13 rfl (zFf HT B rfl rfl (List.getElem?_eq_some_iff.mp hu).1 (s_ret (e_p2
    (e_p1 (e_lines B rfl rfl hu hl (g := fun l => .int l.charge) fun l hm => zAI rfl (zDi HT (hok l hm)))
      (by rw [show u.lines.map (fun l => V.int l.charge) = iv (u.lines.map Ln.charge) by rw [iv, List.map_map]; rfl]; exact zHK σ _))
    (e_p2 (zBs B rfl rfl hu) rfl rfl) rfl)))
noncomputable def toldV (l : Ln) : V := .tup [.str l.item, .int l.p, .int l.s, .int l.b, .int l.a, .int l.r]
theorem b_told (HT : BookTab T t) (h11 : T 11 = some fB_11) (B : BookIn σ b e h es hs) {o : Nat} {u : Or} (hu : es[o]? = some u.v) (hl : u.lines.length < LIM) : callFn T (d + 2) false 11 [.ref b, .int o] σ = .ok (.lst (u.lines.map toldV)) σ :=
  zAH h11 rfl (zFf HT B rfl rfl (List.getElem?_eq_some_iff.mp hu).1 (s_ret (e_lines B rfl rfl hu hl (g := toldV) fun l _ => rfl)))
end
end Mine
end

/-! # BkC -/
section
set_option autoImplicit false
namespace Mine
open PySem
structure Or.ok (u : Or) : Prop where
  few : u.lines.length ≤ 20
  ls : ∀ l ∈ u.lines, l.ok
theorem Or.ok.lim {u : Or} (h : u.ok) : u.lines.length < LIM := Nat.lt_of_le_of_lt h.few (by decide)
noncomputable def dL (w : Wd) (o k n : Int) : V := .tup [.str w.s, .int o, .int k, .int n]
noncomputable def checked (σ : Sto) : Option Cls → R V
  | none => .ok .none σ
  | some c => .exc c σ
noncomputable def atI {α : Type} (l : List α) (i : Int) : Option α := if (decide (0 ≤ i) && decide (i < (l.length : Int))) = true then l[i.toNat]? else none
noncomputable def errN (n m : Int) : Option Cls := if n < 1 then some .NoNumber else if n > m then some .TooMuch else none
noncomputable def errK (w : Wd) (n : Int) : Option Ln → Option Cls
  | none => some .NoLine
  | some l => errN n (mostOf w l)
noncomputable def errU (w : Wd) (k n : Int) : Option Or → Option Cls
  | none => some .NoOrder
  | some u => errK w n (atI u.lines k)
noncomputable def errL (us : List Or) (w : Wd) (o k n : Int) : Option Cls := errU w k n (atI us o)
theorem atI_some {α : Type} {l : List α} {i : Int} {x : α} (h : atI l i = some x) : ∃ k : Nat, i = k ∧ l[k]? = some x := by
  unfold atI at h
  split at h
  · rename_i hc
    obtain ⟨k, rfl, _⟩ := zGX.mp hc
    exact ⟨k, rfl, h⟩
  · cases h
theorem atI_none {α : Type} {l : List α} {i : Int} (h : atI l i = none) : (decide (0 ≤ i) && decide (i < (l.length : Int))) = false := by
  unfold atI at h
  split at h
  · rename_i hc
    obtain ⟨k, rfl, hk⟩ := zGX.mp hc
    rw [show (k : Int).toNat = k from rfl, List.getElem?_eq_none_iff] at h
    omega
  · rename_i hc; exact Bool.eq_false_iff.mpr hc
section
variable {T : Nat → Option Fn} {t : Bool} {F Fq : Calls} {d : Nat} {q : Bool} {σ : Sto} {b e h : Nat} {us : List Or} {hs : List V} {ρ : List V}
theorem zHV (w : Wd) : ev2 .eq σ (.str w.s) (.str sMove) = some (.bool false) := by cases w <;> rfl
theorem w_pay (w : Wd) : ev2 .eq σ (.str w.s) (.str sPay) = some (.bool false) := by cases w <;> rfl
theorem w_ref (w : Wd) : ev2 .eq σ (.str w.s) (.str sRef) = some (.bool false) := by cases w <;> rfl
theorem w_ord (w : Wd) : ev2 .eq σ (.str w.s) (.str sOrd) = some (.bool false) := by cases w <;> rfl
theorem w_npay (w : Wd) : ev2 .ne σ (.str w.s) (.str sPay) = some (.bool true) := by cases w <;> rfl
theorem w_in (w : Wd) : ev2 .isIn σ (.str w.s) (.tup [.str sDel, .str sBack, .str sSwap, .str sCred]) = some (.bool true) := by cases w <;> rfl
theorem w_parts (w : Wd) : ev2 .notIn σ (.str w.s) .parts = some (.bool false) := by cases w <;> rfl
theorem w_four (w : Wd) : ev2 .index σ .parts (.str w.s) = some (.int 4) := by cases w <;> rfl
theorem zEu {o : Nat} {u : Or} (hu : us[o]? = some u) : (us.map Or.v)[o]? = some u.v := by rw [List.getElem?_map, hu]; rfl
theorem b_most (HT : BookTab T t) (B : BookIn σ b e h (us.map Or.v) hs) {w : Wd} {o k : Nat} {n : Int} {u : Or} {l : Ln} (hu : us[o]? = some u) (hl : u.lines[k]? = some l) (h1 : l.ok) :
    callFn T (d + 4) q 5 [.ref b, dL w o k n] σ = .ok (.int (mostOf w l)) σ :=
  zAH HT.b5 rfl (s_t (zAC (e_p2 rfl rfl (w_in w))) (s_ret (zAI (zAB rfl (zAB (e_p2 (e_p2 (z := .tup (u.lines.map Ln.v)) (zBs B rfl rfl (zEu hu)) rfl rfl) rfl (zBW σ (by rw [List.getElem?_map, hl]; rfl))) rfl)) (b_most_of HT h1 w))))
theorem b_checkL (HT : BookTab T t) (B : BookIn σ b e h (us.map Or.v) hs) (hok : ∀ u ∈ us, u.ok) (w : Wd) (o k n : Int) :
    callFn T (d + 5) false 4 [.ref b, dL w o k n] σ = checked σ (errL us w o k n) := by
  show _ = checked σ (errU w k n (atI us o))
  cases ho : atI us o with
  | none => exact zAk HT.b4 rfl (s_needX HT B rfl rfl (by rw [List.length_map]; exact atI_none ho))
  | some u =>
    obtain ⟨o, rfl, hu⟩ := atI_some ho
    have hi : o < (us.map Or.v).length := by rw [List.length_map]; exact (List.getElem?_eq_some_iff.mp hu).1
    have hlen : ∀ {F : Calls}, evE F false (.p1 .len (.p2 .index (.p2 .index (.attr (.var 0) 0) (.p2 .index (.var 1) (.lit (.int 1)))) (.lit (.int 0)))) [.ref b, dL w o k n] σ = .ok (.int u.lines.length) σ :=
      e_p1 (e_p2 (z := .tup (u.lines.map Ln.v)) (zBs B rfl rfl (zEu hu)) rfl rfl) (by rw [zHL, List.length_map])
    show _ = checked σ (errK w n (atI u.lines k))
    cases hk : atI u.lines k with
    | none =>
      exact zAk HT.b4 rfl (zFf HT B rfl rfl hi (s_f (zAC (e_p2 rfl rfl (zHV w)))
        (s_t (zAC (zBb (e_p2 rfl rfl (w_in w)) rfl (e_p1 (zDf rfl rfl hlen) (by rw [atI_none hk]; rfl)))) rfl)))
    | some l =>
      obtain ⟨k, rfl, hl⟩ := atI_some hk
      have hm := b_most (d := d) (q := false) (n := n) (w := w) HT B hu hl ((hok u (List.mem_of_getElem? hu)).ls l (List.mem_of_getElem? hl))
      have pre : ∀ {r : R Fl} , exL (callFn T (d + 4) false) (callFn T (d + 4) true) false (fB_4.body.drop 3) [.ref b, dL w o k n] σ = r → exL (callFn T (d + 4) false) (callFn T (d + 4) true) false fB_4.body [.ref b, dL w o k n] σ = r := fun kk =>
        zFf HT B rfl rfl hi (s_f (zAC (e_p2 rfl rfl (zHV w)))
          (s_f (zAC (zBb (e_p2 rfl rfl (w_in w)) rfl (e_p1 (zDf rfl rfl hlen) (by rw [zGX.mpr ⟨k, rfl, (List.getElem?_eq_some_iff.mp hl).1⟩]; rfl)))) kk))
      have g : evE (callFn T (d + 4) false) false (.and (.p2 .ne (.p2 .index (.var 1) (.lit (.int 0))) (.lit (.str sPay))) (.p2 .gt (.p2 .index (.var 1) (.p1 .neg (.lit (.int 1)))) (.callm 5 (.var 0) [.var 1]))) [.ref b, dL w o k n] σ = .ok (.bool (decide (n > mostOf w l))) σ :=
        zBb (e_p2 rfl rfl (w_npay w)) rfl (e_p2 rfl (zAM rfl B.isInst rfl hm) rfl)
      show _ = checked σ (errN n (mostOf w l))
      unfold errN
      by_cases h1 : n < 1
      · rw [if_pos h1]
        exact zAk HT.b4 rfl (pre (s_t (zAC (t := true) (e_p2 rfl rfl (show _ = some (V.bool true) by rw [ev2_lt, decide_eq_true h1]))) rfl))
      · rw [if_neg h1]
        have h1' : evC (callFn T (d + 4) false) false (some (.p2 .lt (.p2 .index (.var 1) (.p1 .neg (.lit (.int 1)))) (.lit (.int 1)))) [.ref b, dL w o k n] σ = .ok false σ :=
          zAC (e_p2 rfl rfl (show ev2 .lt σ (.int n) (.int 1) = some (V.bool false) by rw [ev2_lt, decide_eq_false h1]))
        by_cases h2 : n > mostOf w l
        · rw [if_pos h2]
          exact zAk HT.b4 rfl (pre (s_f h1' (s_t (zAC (by rw [decide_eq_true h2] at g; exact g)) rfl)))
        · rw [if_neg h2]
          exact zBd HT.b4 rfl (pre (s_f h1' (s_f (zAC (by rw [decide_eq_false h2] at g; exact g)) rfl)))
end
end Mine
end

/-! # BkD -/
section
set_option autoImplicit false
namespace Mine
open PySem
section
variable {T : Nat → Option Fn} {t : Bool} {F Fq : Calls} {d : Nat} {q : Bool} {σ : Sto} {b e h : Nat} {es hs : List V} {ρ : List V}
theorem zFO {a : CE} {lo hi : Option CE} {x z : V} {i j : Option Int} (ha : evE F q a ρ σ = .ok x σ) (hl : evO F q lo ρ σ = .ok i σ) (hh : evO F q hi ρ σ = .ok j σ) (h : evSlice σ x i j = some z) : evE F q (.slice a lo hi) ρ σ = .ok z σ := by
  rw [x_slice, ha, R.bind_ok, hl, R.bind_ok, hh, R.bind_ok, h]; rfl
theorem zBJ {x : O} {i : Nat} {y : O} (hi : σ[i]? = some y) : (σ ++ [x])[i]? = some y := by
  rw [List.getElem?_append_left (List.getElem?_eq_some_iff.mp hi).1]; exact hi
theorem zAL {i j : Nat} {x y : O} (hi : σ[i]? = some y) (hne : j ≠ i) : (σ.set j x)[i]? = some y := by
  rw [List.getElem?_set_ne hne]; exact hi
theorem zEt {i : Nat} {x y : O} (hi : σ[i]? = some y) : (σ.set i x)[i]? = some x :=
  List.getElem?_set_self (List.getElem?_eq_some_iff.mp hi).1
theorem BookIn.bh (B : BookIn σ b e h es hs) : h ≠ b := fun q => by have := B.inst; rw [← q, B.his] at this; cases this
theorem BookIn.be (B : BookIn σ b e h es hs) : e ≠ b := fun q => by have := B.inst; rw [← q, B.ent] at this; cases this
theorem BookIn.push (B : BookIn σ b e h es hs) (x : O) : BookIn (σ ++ [x]) b e h es hs := ⟨zBJ B.inst, zBJ B.ent, zBJ B.his, B.ne⟩
theorem BookIn.setH (B : BookIn σ b e h es hs) (hs' : List V) : BookIn (σ.set h (.list hs')) b e h es hs' :=
  ⟨zAL B.inst B.bh, zAL B.ent B.ne.symm, zEt B.his, B.ne⟩
theorem BookIn.setE (B : BookIn σ b e h es hs) (es' : List V) : BookIn (σ.set e (.list es')) b e h es' hs :=
  ⟨zAL B.inst B.be, zEt B.ent, zAL B.his B.ne, B.ne⟩
theorem BookIn.keep {σ' : Sto} (B : BookIn σ b e h es hs) (k : ∀ (i : Nat) (o : O), σ[i]? = some o → σ'[i]? = some o) : BookIn σ' b e h es hs := ⟨k _ _ B.inst, k _ _ B.ent, k _ _ B.his, B.ne⟩
theorem s_entry (B : BookIn σ b e h es hs) (h0 : readVar ρ 0 = some (.ref b)) {c v : CE} {o : Nat} {x : V} (hv : evE F q v ρ σ = .ok x σ) (hc : evE F q c ρ σ = .ok (.int o) σ) (ho : o < es.length) {rest : List CS} {r : R Fl} (k : exL F Fq q rest ρ (σ.set e (.list (es.set o x))) = r) :
    exL F Fq q (.setItem (.attr (.var 0) 0) c v :: rest) ρ σ = r :=
  s_setItem hv (e_ent B h0) hc (setItem_at σ B.ent ho) k
theorem slice_to {xs : List V} {k : Nat} (hk : k < xs.length) : evSlice σ (.tup xs) none (some (k : Int)) = some (.tup (xs.take k)) := by
  show some (V.tup ((xs.take (if (k : Int) < 0 then ((k : Int) + xs.length).toNat else min (k : Int).toNat xs.length)).drop 0)) = _
  rw [if_neg (by omega), Int.toNat_natCast, Nat.min_eq_left (Nat.le_of_lt hk), List.drop_zero]
theorem slice_from {xs : List V} {k : Nat} (hk : k < xs.length) : evSlice σ (.tup xs) (some ((k : Int) + 1)) none = some (.tup (xs.drop (k + 1))) := by
  show some (V.tup ((xs.take xs.length).drop (if (k : Int) + 1 < 0 then ((k : Int) + 1 + xs.length).toNat else min ((k : Int) + 1).toNat xs.length))) = _
  rw [if_neg (by omega), List.take_length, show ((k : Int) + 1).toNat = k + 1 by omega, Nat.min_eq_left hk]
theorem zHR {xs ys : List V} (hl : xs.length + ys.length ≤ LIM) : ev2 .add σ (.tup xs) (.tup ys) = some (.tup (xs ++ ys)) := by
  show (if xs.length + ys.length ≤ LIM then some (V.tup (xs ++ ys)) else none) = _
  rw [if_pos hl]
theorem e_swap {a i x : CE} {xs : List V} {k : Nat} {v : V} (hx : evE F q a ρ σ = .ok (.tup xs) σ) (hi : evE F q i ρ σ = .ok (.int k) σ) (hv : evE F q x ρ σ = .ok v σ) (hk : k < xs.length) (hl : xs.length ≤ LIM) :
    evE F q (.p2 .add (.p2 .add (.slice a none (some i)) (.tup [x])) (.slice a (some (.p2 .add i (.lit (.int 1)))) none)) ρ σ = .ok (.tup (xs.set k v)) σ := by
  have h1 : evO F q (some i) ρ σ = .ok (some (k : Int)) σ := by rw [zFC, hi]; rfl
  have h2 : evO F q (some (.p2 .add i (.lit (.int 1)))) ρ σ = .ok (some ((k : Int) + 1)) σ := by rw [zFC, e_p2 hi rfl (ev2_add σ k 1)]; rfl
  have e := e_p2 (e_p2 (zFO (lo := none) hx rfl h1 (slice_to hk)) (e_tup (es := [x]) (vs := [v]) (zAB hv rfl)) (zHR (σ := σ) (by rw [List.length_take]; show min k xs.length + 1 ≤ LIM; omega))) (zFO (hi := none) hx h2 rfl (slice_from hk)) (zHR (σ := σ) (by rw [List.length_append, List.length_take, List.length_drop]; show min k xs.length + 1 + (xs.length - (k + 1)) ≤ LIM; omega))
  rw [e, List.set_eq_take_append_cons_drop, if_pos hk, List.append_assoc]; rfl
end
noncomputable def upL (w : Wd) (u : Or) (k : Nat) (l : Ln) (n : Int) : Or := { lines := u.lines.set k (behindL w l n), paid := u.paid, rows := u.rows ++ [(w.s, (behindL w l n).charge - l.charge)] }
noncomputable def noted (σ : Sto) (h : Nat) (hs : List V) (deed : V) (old : List (Int × V)) : Sto := List.set (σ ++ [O.dict old]) h (O.list (hs ++ [V.tup [deed, V.ref σ.length]]))
theorem zAr {w : Wd} {l : Ln} {n : Int} (h : l.ok) : (behindL w l n).ok := by cases w <;> exact ⟨h.1, h.2, h.3, h.4, h.5, h.6⟩
theorem set_map {α β : Type} (f : α → β) (l : List α) (i : Nat) (x : α) : (l.map f).set i (f x) = (l.set i x).map f := by rw [List.map_set]
theorem zHe {σ : Sto} {x y : O} : (σ ++ [x]).set σ.length y = σ ++ [y] := by
  rw [List.set_append_right _ _ (Nat.le_refl _), Nat.sub_self]; rfl
theorem zBK {σ : Sto} {x : O} : (σ ++ [x])[σ.length]? = some x := by
  rw [List.getElem?_append_right (Nat.le_refl _), Nat.sub_self]; rfl
section
variable {T : Nat → Option Fn} {t : Bool} {d : Nat} {q : Bool} {σ : Sto} {b e h : Nat} {us : List Or} {hs : List V} {w : Wd} {o k : Nat} {n : Int} {u : Or} {l : Ln}
theorem b_turn (HT : BookTab T t) (B : BookIn σ b e h (us.map Or.v) hs) (hu : us[o]? = some u) (hl : u.lines[k]? = some l) (hok : u.ok) (hr : u.rows.length < LIM) :
    callFn T (d + 3) false 8 [.ref b, .int o, .int k, .str w.s, .int n] σ = .ok (.tup [.int o, .int ((behindL w l n).charge - l.charge)]) (σ.set e (.list ((us.set o (upL w u k l n)).map Or.v))) := by
  have hl1 := hok.ls l (List.mem_of_getElem? hl)
  have hkl : k < (u.lines.map Ln.v).length := by rw [List.length_map]; exact (List.getElem?_eq_some_iff.mp hl).1
  have hlm : (u.lines.map Ln.v).length ≤ LIM := by rw [List.length_map]; exact Nat.le_of_lt hok.lim
  have ho : o < (us.map Or.v).length := by rw [List.length_map]; exact (List.getElem?_eq_some_iff.mp hu).1
  refine zAH HT.b8 rfl ?_
  refine s_asg (v := u.v) (zBs B rfl rfl (zEu hu)) ?_
  refine s_asg (v := l.v) (e_p2 (x := .tup (u.lines.map Ln.v)) rfl rfl (zBW σ (by rw [List.getElem?_map, hl]; rfl))) ?_
  refine s_asg (v := (behindL w l n).v) (zAI rfl (b_behind HT hl1 w n)) ?_
  refine s_asg (v := .int ((behindL w l n).charge - l.charge)) (e_p2 (zAI rfl (zDi HT (zAr hl1))) (zAI rfl (zDi HT hl1)) rfl) ?_
  refine s_asg (v := .tup ((u.lines.set k (behindL w l n)).map Ln.v)) (by rw [← set_map]; exact e_swap (xs := u.lines.map Ln.v) rfl rfl rfl hkl hlm) ?_
  refine s_entry B rfl (x := (upL w u k l n).v) ?_ rfl ho (s_ret ?_)
  · refine e_tup (zAB rfl (zAB rfl (zAB ?_ rfl)))
    refine e_p2 (x := .tup (u.rows.map rowV)) (y := .tup [rowV (w.s, (behindL w l n).charge - l.charge)]) rfl rfl ?_
    rw [zHR (by rw [List.length_map]; exact hr)]
    show _ = some (V.tup ((u.rows ++ [_]).map rowV))
    rw [List.map_append]; rfl
  · rw [set_map]; rfl
theorem b_changeL (HT : BookTab T t) (B : BookIn σ b e h (us.map Or.v) hs) (hu : us[o]? = some u) (hl : u.lines[k]? = some l) (hok : u.ok) (hr : u.rows.length < LIM) (hh : hs.length < LIM) :
    callFn T (d + 4) false 6 [.ref b, dL w o k n] σ = .ok (rv t ((noted σ h hs (dL w o k n) [((o : Int), u.v)]).set e (.list ((us.set o (upL w u k l n)).map Or.v))) [.tup [.int o, .int ((behindL w l n).charge - l.charge)]]) (rs t ((noted σ h hs (dL w o k n) [((o : Int), u.v)]).set e (.list ((us.set o (upL w u k l n)).map Or.v))) [.tup [.int o, .int ((behindL w l n).charge - l.charge)]]) := by
  have B1 := B.push (.dict [])
  have B2 := B.push (.dict [((o : Int), u.v)])
  have B3 : BookIn (noted σ h hs (dL w o k n) [((o : Int), u.v)]) b e h (us.map Or.v) (hs ++ [.tup [dL w o k n, .ref σ.length]]) := B2.setH _
  refine zAH HT.b6 rfl ?_
  refine s_asg (v := .str w.s) rfl (s_asg (v := .int n) rfl ?_)
  refine s_asg (v := .ref σ.length) (σ' := σ ++ [.dict [((o : Int), u.v)]]) ?_ ?_
  · rw [x_dict1, show evE (callFn T (d + 3) false) false (.p2 .index (.var 1) (.lit (.int 1))) _ (σ ++ [.dict []]) = .ok (.int o) (σ ++ [.dict []]) from rfl, R.bind_ok, zBs B1 rfl rfl (zEu hu), R.bind_ok]
    show dict1O σ.length (σ ++ [.dict []]) o u.v (σ ++ [.dict []])[σ.length]? = _
    rw [zBK]
    show R.ok (V.ref σ.length) ((σ ++ [O.dict []]).set σ.length (O.dict [((o : Int), u.v)])) = _
    rw [zHe]
  refine s_f (zAC (e_p2 rfl rfl (zHV w))) ?_
  refine s_exp (σ' := noted σ h hs (dL w o k n) [((o : Int), u.v)]) (zAp (e_his B2 rfl) (by show (listR _).isSome = true; rw [B2.his]; rfl) (e_tup (zAB rfl (zAB rfl rfl))) (zAi _ B2.his hh)) ?_
  refine s_f (zAC (e_p2 rfl rfl (zHV w))) (s_f (zAC (e_p2 rfl rfl (w_pay w))) (s_f (zAC (e_p2 rfl rfl (w_ref w))) ?_))
  exact s_ret (e_res (zAB (zAM rfl B3.isInst rfl (b_turn HT B3 hu hl hok hr)) rfl))
theorem do_preL (HT : BookTab T t) {o k n : Int} {F Fq : Calls} {r : R Fl} (kk : exL F Fq false (fB_2.body.drop 2) [.ref b, dL w o k n] σ = r) : exL F Fq false fB_2.body [.ref b, dL w o k n] σ = r :=
  s_f (zAC (zAh rfl rfl (zAh (e_p2 rfl rfl (w_parts w)) rfl (e_p2 rfl (e_p2 rfl rfl (w_four w)) rfl)))) (s_f (zAC (e_p2 rfl rfl (w_ord w))) kk)
theorem b_doLT (HT : BookTab T t) (B : BookIn σ b e h (us.map Or.v) hs) (hok : ∀ u ∈ us, u.ok) (he : errL us w o k n = none) (hu : us[o]? = some u) (hl : u.lines[k]? = some l) (hr : u.rows.length < LIM) (hh : hs.length < LIM) :
    callFn T (d + 6) false 2 [.ref b, dL w o k n] σ = .ok (rv t ((noted σ h hs (dL w o k n) [((o : Int), u.v)]).set e (.list ((us.set o (upL w u k l n)).map Or.v))) [.tup [.int o, .int ((behindL w l n).charge - l.charge)]]) (rs t ((noted σ h hs (dL w o k n) [((o : Int), u.v)]).set e (.list ((us.set o (upL w u k l n)).map Or.v))) [.tup [.int o, .int ((behindL w l n).charge - l.charge)]]) :=
  zAH HT.b2 rfl (do_preL HT (s_exp (zAM rfl B.isInst rfl ((b_checkL HT B hok w o k n).trans (by rw [he]; rfl))) (s_ret (zAM rfl B.isInst rfl (b_changeL HT B hu hl (hok u (List.mem_of_getElem? hu)) hr hh)))))
theorem b_doL (HT : BookTab T) (B : BookIn σ b e h (us.map Or.v) hs) (hok : ∀ u ∈ us, u.ok) (he : errL us w o k n = none) (hu : us[o]? = some u) (hl : u.lines[k]? = some l) (hr : u.rows.length < LIM) (hh : hs.length < LIM) :
    callFn T (d + 6) false 2 [.ref b, dL w o k n] σ = .ok (.lst [.tup [.int o, .int ((behindL w l n).charge - l.charge)]]) ((noted σ h hs (dL w o k n) [((o : Int), u.v)]).set e (.list ((us.set o (upL w u k l n)).map Or.v))) := b_doLT HT B hok he hu hl hr hh
end
end Mine
end

/-! # BkE -/
section
set_option autoImplicit false
namespace Mine
open PySem
noncomputable def letters : Str := { cps := #[97, 98, 99, 100, 101, 102, 103, 104, 105, 106, 107, 108, 109, 110, 111, 112, 113, 114, 115, 116, 117, 118, 119, 120, 121, 122] }
noncomputable def letterOk (c : Nat) : Bool := (codes letters).contains c
noncomputable def itemOk (s : Str) : Bool := decide (1 ≤ s.length) && decide (s.length ≤ 12) && (codes s).all letterOk
noncomputable def Ln.raw (l : Ln) : V := .tup [.str l.item, .int l.p, .int l.c, .int l.k]
noncomputable def Ln.fresh (l : Ln) : Ln := { l with s := 0, b := 0, a := 0, r := 0 }
theorem Ln.ok.fresh {l : Ln} (h : l.ok) : l.fresh.ok := ⟨h.1, h.2, h.3, h.4, h.5, h.6⟩
structure Ln.good (l : Ln) : Prop where
  ok : l.ok
  item : itemOk l.item = true
  asc : l.item.cps.all (· < 128) = true
noncomputable def newOr (ls : List Ln) : Or := { lines := ls.map Ln.fresh, paid := 0, rows := [] }
theorem zFH {ls : List Ln} (h1 : ls.length ≤ 20) (h2 : ∀ l ∈ ls, l.ok) : (newOr ls).ok :=
  ⟨by show (ls.map Ln.fresh).length ≤ 20; rw [List.length_map]; exact h1, fun l hl => by obtain ⟨m, hm, rfl⟩ := List.mem_map.mp hl; exact (h2 m hm).fresh⟩
section
variable {T : Nat → Option Fn} {t : Bool} {F Fq : Calls} {d : Nat} {q : Bool} {σ : Sto} {b e h : Nat} {es hs : List V} {ρ : List V}
theorem zAx {a b c : CE} {lo x hi : Int} (ha : evE F q a ρ σ = .ok (.int lo) σ) (hb : evE F q b ρ σ = .ok (.int x) σ) (hc : evE F q c ρ σ = .ok (.int hi) σ) : evE F q (.chain a [.le, .le] [b, c]) ρ σ = .ok (.bool (decide (lo ≤ x) && decide (x ≤ hi))) σ := by
  rw [zDk, ha, R.bind_ok, x_ch2, hb]
  show (if decide (lo ≤ x) = true then evChain F q [P2.le] [c] (.int x) ρ σ else .ok (.bool (decide (lo ≤ x))) σ) = _
  cases decide (lo ≤ x) with
  | false => rfl
  | true =>
    show evChain F q [P2.le] [c] (.int x) ρ σ = _
    rw [x_ch1, hc]; rfl
theorem bt_true {lo x hi : Int} (h1 : lo ≤ x) (h2 : x ≤ hi) : (decide (lo ≤ x) && decide (x ≤ hi)) = true := by
  rw [decide_eq_true h1, decide_eq_true h2]; rfl
theorem zBS {a b c : CE} {lo x hi : Int} (h1 : lo ≤ x) (h2 : x ≤ hi) (ha : evE F q a ρ σ = .ok (.int lo) σ) (hb : evE F q b ρ σ = .ok (.int x) σ) (hc : evE F q c ρ σ = .ok (.int hi) σ) : evE F q (.p1 .not (.chain a [.le, .le] [b, c])) ρ σ = .ok (.bool false) σ :=
  e_p1 (zAx ha hb hc) (by rw [bt_true h1 h2]; rfl)
theorem zEi {α : Type} (g : α → Bool) : ∀ l : List α, bools? (l.map fun x => V.bool (g x)) = some (l.map g)
  | [] => rfl
  | x :: l => by
    have := zEi g l
    unfold bools? at this ⊢
    rw [List.map_cons, List.mapM_cons, this]; rfl
theorem b_item (HT : BookTab T t) {s : Str} (h1 : itemOk s = true) (h2 : s.cps.all (· < 128) = true) : callFn T (d + 1) false 21 [.str s] σ = .ok (.bool true) σ := by
  unfold itemOk at h1
  rw [Bool.and_eq_true, Bool.and_eq_true, decide_eq_true_eq, decide_eq_true_eq] at h1
  obtain ⟨⟨ha, hb⟩, hc⟩ := h1
  refine zAH HT.b21 rfl (s_f (zAC (zAh rfl rfl (zBS (x := (s.length : Int)) (by omega) (by omega) rfl rfl rfl))) (s_ret ?_))
  have e := zBf (F := callFn T d false) (elt := .p2 .isIn (.var 1) (.lit (.str letters))) (k := .val) (src := [.var 0]) (cond := none) (ρ := [.str s]) (σ := σ) (l := codes s) (φ := fun c => .str (mkS [c])) (fun _ => true) (fun c => .bool (letterOk c))
    rfl (show itemsBy σ .val [.str s] = some (.now (charsOf s)) by show (if s.cps.all (· < 128) = true then some (Items.now (charsOf s)) else none) = _; rw [if_pos h2]) (.inl rfl)
    (by show (codes s).length < LIM; rw [show (codes s).length = s.length from rfl]; exact Nat.lt_of_le_of_lt hb (by decide)) (fun _ _ => rfl) (fun c _ _ => rfl)
  rw [zBD] at e
  refine e_p1 e ?_
  show ((bools? ((codes s).map fun c => V.bool (letterOk c))).map fun l => V.bool (l.all id)) = _
  rw [zEi, show (some ((codes s).map letterOk)).map (fun l => V.bool (l.all id)) = some (V.bool (((codes s).map letterOk).all id)) from rfl, List.all_map]
  exact congrArg (fun b => some (V.bool b)) hc
theorem zFR (HT : BookTab T t) {ls : List Ln} (h1 : 1 ≤ ls.length) (h2 : ls.length ≤ 20) (hg : ∀ l ∈ ls, l.good) : callFn T (d + 2) false 22 [.lst (ls.map Ln.raw)] σ = .ok .none σ := by
  have ex : ∃ ρ, exL (callFn T (d + 1) false) (callFn T (d + 1) true) false fB_22.body ([V.lst (ls.map Ln.raw)] ++ List.replicate (fB_22.slots - fB_22.params) .undef) σ = .ok (.next ρ) σ := by
    obtain ⟨ρ', σ', e, x, rfl, rfl⟩ := zEe (F := callFn T (d + 1) false) (Fq := callFn T (d + 1) true) (i := 1) (k := .val) (src := [.var 0]) (ρ := [V.lst (ls.map Ln.raw), .undef]) (vs := [.lst (ls.map Ln.raw)]) (σ := σ) (σ₁ := σ) (it := .now (ls.map Ln.raw)) (xs := ls.map Ln.raw)
      (body := [CS.ite (CE.p1 (P1.not) (CE.call 21 [CE.p2 (P2.index) (CE.var 1) (CE.lit (V.int 0))])) [CS.raise (Cls.NoItem)] [],
        CS.ite (CE.or (CE.p1 (P1.not) (CE.chain (CE.lit (V.int 1)) [P2.le, P2.le] [CE.p2 (P2.index) (CE.var 1) (CE.lit (V.int 1)), CE.lit (V.int 1000000)]))
          (CE.or (CE.p1 (P1.not) (CE.chain (CE.lit (V.int 0)) [P2.le, P2.le] [CE.p2 (P2.index) (CE.var 1) (CE.lit (V.int 2)), CE.lit (V.int 1000000000)]))
            (CE.p1 (P1.not) (CE.chain (CE.lit (V.int 1)) [P2.le, P2.le] [CE.p2 (P2.index) (CE.var 1) (CE.lit (V.int 3)), CE.lit (V.int 1000)])))) [CS.raise (Cls.NoNumber)] []])
      (fun _ ρ σ' => ∃ x, ρ = [V.lst (ls.map Ln.raw), x] ∧ σ' = σ) rfl rfl (fun _ _ _ _ => .inl rfl) ⟨_, rfl, rfl⟩ fun j x ρ σ' hx hI => by
        obtain ⟨y, rfl, rfl⟩ := hI
        rw [List.getElem?_map] at hx
        obtain ⟨l, hl, rfl⟩ := Option.map_eq_some_iff.mp hx
        have g := hg l (List.mem_of_getElem? hl)
        refine ⟨[V.lst (ls.map Ln.raw), l.raw], σ', ?_, _, rfl, rfl⟩
        exact s_f (zAC (e_p1 (zAI rfl (b_item HT g.item g.asc)) rfl)) (s_f (zAC (zAh (zBS g.ok.p1 g.ok.p2 rfl rfl rfl) rfl (zAh (zBS g.ok.c1 g.ok.c2 rfl rfl rfl) rfl (zBS g.ok.k1 g.ok.k2 rfl rfl rfl)))) rfl)
    refine ⟨[V.lst (ls.map Ln.raw), x], s_f (zAC (zBS (x := (ls.length : Int)) (by omega) (by omega) rfl (e_p1 rfl (by rw [zBr, List.length_map])) rfl)) ?_⟩
    rw [List.nil_append, zAg]
    exact congrArg (fun r => R.bind r (thenL (callFn T (d + 1) false) (callFn T (d + 1) true) false [])) e
  obtain ⟨ρ, ex⟩ := ex
  exact zBd HT.b22 rfl ex
theorem b_begun (HT : BookTab T t) {l : Ln} : callFn T (d + 1) q 23 [l.raw] σ = .ok l.fresh.v σ := zAH HT.b23 rfl (s_ret rfl)
noncomputable def dO (ls : List Ln) : V := .tup [.str sOrd, .lst (ls.map Ln.raw)]
theorem b_begin (HT : BookTab T t) (B : BookIn σ b e h es hs) {ls : List Ln} (h1 : 1 ≤ ls.length) (h2 : ls.length ≤ 20) (hg : ∀ l ∈ ls, l.good) (he : es.length < 40) (hh : hs.length < LIM) :
    callFn T (d + 3) false 3 [.ref b, .lst (ls.map Ln.raw)] σ = .ok (rv t (noted (σ.set e (.list (es ++ [(newOr ls).v]))) h hs (dO ls) []) []) (rs t (noted (σ.set e (.list (es ++ [(newOr ls).v]))) h hs (dO ls) []) []) := by
  have B1 := B.setE (es ++ [(newOr ls).v])
  refine zAH HT.b3 rfl ?_
  refine s_exp (zAI rfl (zFR HT h1 h2 hg)) ?_
  refine s_f (zAC (t := false) (e_p2 (zEv B rfl) rfl (by rw [ev2_ge, decide_eq_false (by omega)]))) ?_
  have ec := zBf (F := callFn T (d + 2) false) (elt := .call 23 [.var 2]) (k := .val) (src := [.var 1]) (cond := none) (ρ := [.ref b, .lst (ls.map Ln.raw)]) (σ := σ) (l := ls) (φ := Ln.raw) (fun _ => true) (fun l => l.fresh.v) rfl rfl (.inl rfl) (Nat.lt_of_le_of_lt h2 (by decide)) (fun _ _ => rfl) (fun l _ _ => zAI rfl (b_begun HT))
  rw [zBD, show ls.map (fun l => l.fresh.v) = (ls.map Ln.fresh).map Ln.v by rw [List.map_map]; rfl] at ec
  refine s_exp (σ' := σ.set e (.list (es ++ [(newOr ls).v]))) (zAp (e_ent B rfl) (by show (listR _).isSome = true; rw [B.ent]; rfl) (e_tup (zAB (e_p1 (z := .tup ((ls.map Ln.fresh).map Ln.v)) ec rfl) rfl)) (zAi _ B.ent (Nat.lt_trans he (by decide)))) ?_
  refine s_exp (zAp (e_his B1 rfl) (by show (listR _).isSome = true; rw [B1.his]; rfl) (e_tup (zAB (v := dO ls) rfl (zAB rfl rfl))) (zAi _ (B1.push _).his hh)) (s_ret (e_res rfl))
theorem b_doOT (HT : BookTab T t) (B : BookIn σ b e h es hs) {ls : List Ln} (h1 : 1 ≤ ls.length) (h2 : ls.length ≤ 20) (hg : ∀ l ∈ ls, l.good) (he : es.length < 40) (hh : hs.length < LIM) :
    callFn T (d + 4) false 2 [.ref b, dO ls] σ = .ok (rv t (noted (σ.set e (.list (es ++ [(newOr ls).v]))) h hs (dO ls) []) []) (rs t (noted (σ.set e (.list (es ++ [(newOr ls).v]))) h hs (dO ls) []) []) :=
  zAH HT.b2 rfl (s_f rfl (s_t rfl (s_ret (zAM rfl B.isInst rfl (b_begin HT B h1 h2 hg he hh)))))
theorem b_doO (HT : BookTab T) (B : BookIn σ b e h es hs) {ls : List Ln} (h1 : 1 ≤ ls.length) (h2 : ls.length ≤ 20) (hg : ∀ l ∈ ls, l.good) (he : es.length < 40) (hh : hs.length < LIM) :
    callFn T (d + 4) false 2 [.ref b, dO ls] σ = .ok (.lst []) (noted (σ.set e (.list (es ++ [(newOr ls).v]))) h hs (dO ls) []) := b_doOT HT B h1 h2 hg he hh
theorem zFe {c v : CE} {k n : Nat} {x : V} {as : List (Nat × V)} {σ₁ : Sto} (hv : evE F q v ρ σ = .ok x σ₁) (ho : evE F q c ρ σ₁ = .ok (.ref n) σ₁) (hn : σ₁[n]? = some (.inst as)) (hk : k < 2) {rest : List CS} {r : R Fl} (kk : exL F Fq q rest ρ (σ₁.set n (.inst ((k, x) :: as))) = r) :
    exL F Fq q (.setAttr c k v :: rest) ρ σ = r := by
  rw [zAg, zFV, hv, R.bind_ok, ho, R.bind_ok, show doSetAttr σ₁ (.ref n) k x = setAttrO σ₁ n k x σ₁[n]? from rfl, hn, show setAttrO σ₁ n k x (some (.inst as)) = if k < 2 then .ok () (σ₁.set n (.inst ((k, x) :: as))) else .stuck from rfl, if_pos hk]
  exact kk
noncomputable def newBook (σ : Sto) : Sto := σ ++ [.inst [(1, .ref (σ.length + 2)), (0, .ref (σ.length + 1))], .list [], .list []]
theorem zGe {l r : Sto} {x : O} : (l ++ x :: r)[l.length]? = some x := by
  rw [List.getElem?_append_right (Nat.le_refl _), Nat.sub_self]; rfl
theorem zFF {l r : Sto} {x y : O} : (l ++ x :: r).set l.length y = l ++ y :: r := by
  rw [List.set_append_right _ _ (Nat.le_refl _), Nat.sub_self]; rfl
theorem b_new (HT : BookTab T t) : evE (callFn T (d + 1) q) q .new ρ σ = .ok (.ref σ.length) (newBook σ) := by
  have hc : callFn T (d + 1) q 0 [.ref σ.length] (σ ++ [.inst []]) = .ok .none (newBook σ) := by
    refine zBd (ρ := [.ref σ.length]) HT.b0 rfl (zFe (σ₁ := σ ++ [.inst [], .list []]) (x := .ref (σ.length + 1)) ?_ rfl zGe (by decide) ?_)
    · show R.ok (V.ref (σ ++ [O.inst []]).length) ((σ ++ [O.inst []]) ++ [O.list []]) = _
      rw [List.length_append, List.append_assoc]; rfl
    · rw [zFF]
      refine zFe (σ₁ := σ ++ [.inst [(0, .ref (σ.length + 1))], .list [], .list []]) (x := .ref (σ.length + 2)) ?_ rfl zGe (by decide) ?_
      · show R.ok (V.ref (σ ++ [O.inst [(0, .ref (σ.length + 1))], O.list []]).length) ((σ ++ [O.inst [(0, .ref (σ.length + 1))], O.list []]) ++ [O.list []]) = _
        rw [List.length_append, List.append_assoc]; rfl
      · rw [zFF]; rfl
  rw [x_new, hc]; rfl
theorem newBook_in : BookIn (newBook σ) σ.length (σ.length + 1) (σ.length + 2) [] [] :=
  ⟨zGe, by unfold newBook; rw [List.getElem?_append_right (by omega), Nat.add_sub_cancel_left]; rfl, by unfold newBook; rw [List.getElem?_append_right (by omega), Nat.add_sub_cancel_left]; rfl, by omega⟩
end
end Mine
end

/-! # BkF -/
section
set_option autoImplicit false
namespace Mine
open PySem
noncomputable def dP (o n : Int) : V := .tup [.str sPay, .int o, .int n]
noncomputable def dR (o n : Int) : V := .tup [.str sRef, .int o, .int n]
noncomputable def dM (o p n : Int) : V := .tup [.str sMove, .int o, .int p, .int n]
noncomputable def errP1 (n : Int) : Option Or → Option Cls
  | none => some .NoOrder
  | some _ => if n < 1 then some .NoNumber else none
noncomputable def errPay (us : List Or) (o n : Int) : Option Cls := errP1 n (atI us o)
noncomputable def errR1 (n : Int) : Option Or → Option Cls
  | none => some .NoOrder
  | some u => errN n (0 - u.owed)
noncomputable def errRef (us : List Or) (o n : Int) : Option Cls := errR1 n (atI us o)
noncomputable def errM2 (u : Or) (o p n : Int) : Option Or → Option Cls
  | none => some .NoOrder
  | some _ => if o == p then some .SameOrder else errN n (0 - u.owed)
noncomputable def errM1 (us : List Or) (o p n : Int) : Option Or → Option Cls
  | none => some .NoOrder
  | some u => errM2 u o p n (atI us p)
noncomputable def errMov (us : List Or) (o p n : Int) : Option Cls := errM1 us o p n (atI us o)
noncomputable def payOr (u : Or) (w : Str) (c : Int) : Or := { lines := u.lines, paid := u.paid + c, rows := u.rows ++ [(w, 0 - c)] }
section
variable {T : Nat → Option Fn} {t : Bool} {F Fq : Calls} {d : Nat} {q : Bool} {σ : Sto} {b e h : Nat} {us : List Or} {hs : List V} {ρ : List V} {o p : Nat} {n : Int} {u u' : Or}
end
end Mine
end

/-! # BkG -/
section
set_option autoImplicit false
namespace Mine
open PySem
section
variable {T : Nat → Option Fn} {t : Bool} {F Fq : Calls} {d : Nat} {q : Bool} {σ : Sto} {b e h : Nat} {us : List Or} {hs : List V} {ρ : List V} {o p : Nat} {n : Int} {u u' : Or}
noncomputable def movOr (us : List Or) (o p : Nat) (u u' : Or) (n : Int) : List Or := (us.set o (payOr u sMove (0 - n))).set p (payOr u' sMove n)
end
end Mine
end

/-! # PG -/
section
set_option autoImplicit false
namespace Mine
open PySem
noncomputable def gWhole : Fn := { params := 1, slots := 1, body := [CS.ret (CE.and (CE.p1 (P1.isInst Kd.int) (CE.var 0)) (CE.p1 P1.not (CE.p1 (P1.isInst Kd.bool) (CE.var 0))))] }
end Mine
end

/-! # GA -/
section
set_option autoImplicit false
namespace Mine
open PySem
theorem zHF (a : Int) {m : Int} (h : 0 < m) : 0 ≤ a.fmod m ∧ a.fmod m < m := ⟨Int.fmod_nonneg_of_pos a h, Int.fmod_lt_of_pos a h⟩
theorem zBL (a : Int) {m : Nat} (h : 0 < m) : ∃ k : Nat, a.fmod (m : Int) = k ∧ k < m := by
  obtain ⟨h1, h2⟩ := zHF a (m := (m : Int)) (Int.natCast_pos.mpr h)
  exact ⟨(a.fmod (m : Int)).toNat, (Int.toNat_of_nonneg h1).symm, (Int.toNat_lt h1).mpr h2⟩
theorem one_fmod (a : Int) {m : Nat} (hm : 0 < m) : ∃ n : Nat, 1 + a.fmod (m : Int) = (n : Int) ∧ 1 ≤ n ∧ n ≤ m := by
  obtain ⟨z, hz, hlt⟩ := zBL a hm
  exact ⟨1 + z, by rw [hz]; rfl, Nat.le_add_right 1 z, Nat.add_comm 1 z ▸ hlt⟩
section
variable {F Fq : Calls} {q : Bool} {ρ : List V} {σ : Sto}
noncomputable def GR (F Fq : Calls) (q : Bool) (ss : List CS) (ρ : List V) (σ : Sto) : Prop := ∃ n : Int, exL F Fq q ss ρ σ = .ok (.ret (.int n)) σ
noncomputable def GI (F : Calls) (q : Bool) (e : CE) (ρ : List V) (σ : Sto) : Prop := ∃ n : Int, evE F q e ρ σ = .ok (.int n) σ
theorem gr_ret {e : CE} {rest : List CS} (h : GI F q e ρ σ) : GR F Fq q (.ret e :: rest) ρ σ := by
  obtain ⟨n, h⟩ := h; exact ⟨n, s_ret h⟩
theorem gr_if {c e : CE} {rest : List CS} {t : Bool} (hc : evC F q (some c) ρ σ = .ok t σ) (h1 : t = true → GI F q e ρ σ) (h2 : t = false → GR F Fq q rest ρ σ) : GR F Fq q (.ite c [.ret e] [] :: rest) ρ σ := by
  cases t with
  | true => obtain ⟨n, h⟩ := h1 rfl; exact ⟨n, s_t hc (s_ret h)⟩
  | false => obtain ⟨n, h⟩ := h2 rfl; exact ⟨n, s_f hc h⟩
theorem gr_asg {e : CE} {i : Nat} {v : V} {rest : List CS} (h : evE F q e ρ σ = .ok v σ) (k : GR F Fq q rest (ρ.set i v) σ) : GR F Fq q (.asg i e :: rest) ρ σ := by
  obtain ⟨n, k⟩ := k; exact ⟨n, s_asg h k⟩
theorem gr_call {T : Nat → Option Fn} {d k : Nat} {fn : Fn} {args : List V} (h : T k = some fn) (hl : args.length = fn.params) (hx : GR (callFn T d q) (callFn T d true) q fn.body (args ++ List.replicate (fn.slots - fn.params) .undef) σ) : ∃ n : Int, callFn T (d + 1) q k args σ = .ok (.int n) σ := by
  obtain ⟨n, hx⟩ := hx; exact ⟨n, zAH h hl hx⟩
theorem e_or {a b : CE} {s t : Bool} (ha : evE F q a ρ σ = .ok (.bool s) σ) (hb : evE F q b ρ σ = .ok (.bool t) σ) : evE F q (.or a b) ρ σ = .ok (.bool (s || t)) σ := by
  cases s with
  | true => exact e_or_t ha rfl
  | false => exact zAh ha rfl hb
theorem e_and {a b : CE} {s t : Bool} (ha : evE F q a ρ σ = .ok (.bool s) σ) (hb : evE F q b ρ σ = .ok (.bool t) σ) : evE F q (.and a b) ρ σ = .ok (.bool (s && t)) σ := by
  cases s with
  | true => exact zBb ha rfl hb
  | false => exact e_and_f ha rfl
theorem e_hash {a b m : CE} {c p z : Int} (ha : evE F q a ρ σ = .ok (.int c) σ) (hb : evE F q b ρ σ = .ok (.int p) σ) (hm : evE F q m ρ σ = .ok (.int z) σ) (hp : (p == 0) = false) (hz : (z == 0) = false) : evE F q (.p2 .mod (.p2 .mod (.p2 .mul a (.lit (.int 48271))) b) m) ρ σ = .ok (.int (((c * 48271).fmod p).fmod z)) σ :=
  e_p2 (e_p2 (e_p2 ha rfl (zBq σ c 48271 (.inr rfl))) hb (zAW σ _ p hp)) hm (zAW σ _ z hz)
theorem max_ne (m : Int) : ((if m > 1 then m else 1) == 0) = false := by rw [beq_eq_false_iff_ne]; split <;> omega
end
section
variable {T : Nat → Option Fn} {d k : Nat} {q : Bool} {σ : Sto}
theorem g_whole (h : T k = some gWhole) (i : Int) : callFn T (d + 1) q k [.int i] σ = .ok (.bool true) σ := zAH h rfl (s_ret rfl)
theorem zHj : ∀ cs : List Nat, Str.join (mkS []) (cs.map fun c => mkS [c]) = mkS cs
  | [] => rfl
  | [c] => rfl
  | c :: c' :: r => by
    show mkS [c] ++ mkS [] ++ Str.join (mkS []) ((c' :: r).map fun c => mkS [c]) = _
    rw [zHj (c' :: r)]
    show (⟨(mkS [c]).cps ++ (mkS []).cps ++ (mkS (c' :: r)).cps⟩ : Str) = _
    simp [mkS]
theorem zHa : ∀ cs : List Nat, strs? (cs.map fun c => V.str (mkS [c])) = some (cs.map fun c => mkS [c])
  | [] => rfl
  | c :: r => by
    have := zHa r
    unfold strs? at this ⊢
    rw [List.map_cons, List.mapM_cons, this]; rfl
theorem len_one : ∀ cs : List Nat, ((cs.map fun c => mkS [c]).map fun x : Str => x.length).sum = cs.length
  | [] => rfl
  | c :: r => by
    rw [List.map_cons, List.map_cons, List.sum_cons, len_one r, List.length_cons]
    exact Nat.add_comm 1 _
theorem join_at {cs : List Nat} (h : cs.length ≤ 100000) : ev2 .join σ (.str (mkS [])) (.lst (cs.map fun c => .str (mkS [c]))) = some (.str (mkS cs)) := by
  show ((strs? (cs.map fun c => V.str (mkS [c]))).bind fun l => if (l.map (·.length)).sum + l.length * (mkS []).length ≤ 100000 then some (V.str (Txt.join (mkS []) l)) else none) = _
  rw [zHa]
  show (if ((cs.map fun c => mkS [c]).map fun x : Str => x.length).sum + (cs.map fun c => mkS [c]).length * 0 ≤ 100000 then some (V.str (Txt.join (mkS []) (cs.map fun c => mkS [c]))) else none) = _
  rw [len_one, Nat.mul_zero, Nat.add_zero, if_pos h]
  show some (V.str (Builtin.Str.glued (mkS []) (cs.map fun c => mkS [c]))) = _
  rw [StrLaws.glued_eq_join, zHj]
noncomputable def letterAt (j : Nat) : Nat := (codes letters).getD j 97
theorem zGu {j : Nat} (h : j < 26) : letterOk (letterAt j) = true ∧ letterAt j < 128 := by
  have : ∀ j : Fin 26, letterOk (letterAt j) = true ∧ letterAt j < 128 := by decide
  exact this ⟨j, h⟩
theorem letter_at {j : Nat} (h : j < 26) : ev2 .index σ (.str letters) (.int (j : Int)) = some (.str (mkS [letterAt j])) := by
  show ((normIndex 26 (j : Int)).bind fun k => (codes letters)[k]?.map fun c => V.str (mkS [c])) = _
  rw [zAm h]
  show ((codes letters)[j]?.map fun c => V.str (mkS [c])) = _
  have : j < (codes letters).length := h
  rw [List.getElem?_eq_getElem this]
  unfold letterAt
  rw [List.getD_eq_getElem?_getD, List.getElem?_eq_getElem this]; rfl
end
end Mine
end

/-! # GB -/
section
set_option autoImplicit false
namespace Mine
open PySem
theorem range_at {lo hi : Int} {j : Nat} {x : V} (h : (rangeL lo hi)[j]? = some x) : x = .int (lo + (j : Int)) ∧ j < (hi - lo).toNat := by
  unfold rangeL at h
  rw [List.getElem?_map] at h
  obtain ⟨k, hk, rfl⟩ := Option.map_eq_some_iff.mp h
  obtain ⟨h1, h2⟩ := List.getElem?_eq_some_iff.mp hk
  rw [List.getElem_range] at h2
  rw [List.length_range] at h1
  exact ⟨by rw [h2], h1⟩
theorem zDr {n : Nat} : (rangeL 0 (n : Int)).length = n := by
  unfold rangeL; rw [List.length_map, List.length_range, Int.sub_zero, Int.toNat_natCast]
theorem zBz {n j : Nat} {x : V} (h : (rangeL 0 (n : Int))[j]? = some x) : x = .int (j : Int) ∧ j < n := by
  obtain ⟨h1, h2⟩ := range_at h
  rw [Int.zero_add] at h1
  rw [Int.sub_zero, Int.toNat_natCast] at h2
  exact ⟨h1, h2⟩
inductive Drawn (σ : Sto) (c many : Int) (j : Nat) : List V → Sto → Prop
  | mk (ls : List Ln) (x3 x4 x5 : V) (hl : ls.length = j) (hg : ∀ l ∈ ls, l.good) : Drawn σ c many j [.int c, .ref σ.length, .int many, x3, x4, x5] (σ ++ [.list (ls.map Ln.raw)])
section
variable {T : Nat → Option Fn} {d k it : Nat} {q : Bool} {σ : Sto}
theorem divj_ok (j : Nat) (hj : j < 20) : ((j : Int) + 1 == 0 || decide (1073741824 ≤ ((j : Int) + 1).natAbs)) = false := by
  rw [Bool.or_eq_false_iff, beq_eq_false_iff_ne, decide_eq_false_iff_not]
  exact ⟨fun h => (nomatch (h : ((j + 1 : Nat) : Int) = ((0 : Nat) : Int))), fun h => absurd (Nat.le_trans h hj) (by decide)⟩
end
end Mine
end

/-! # GC -/
section
set_option autoImplicit false
namespace Mine
open PySem
inductive Deed where
  | ord (ls : List Ln)
  | pay (o n : Int)
  | ref (o n : Int)
  | mov (o p n : Int)
  | lin (w : Wd) (o k n : Int)
noncomputable def Deed.v : Deed → V
  | .ord ls => dO ls
  | .pay o n => dP o n
  | .ref o n => dR o n
  | .mov o p n => dM o p n
  | .lin w o k n => dL w o k n
noncomputable def Deed.err (us : List Or) : Deed → Option Cls
  | .ord _ => none
  | .pay o n => errPay us o n
  | .ref o n => errRef us o n
  | .mov o p n => errMov us o p n
  | .lin w o k n => errL us w o k n
noncomputable def Deed.fit (us : List Or) : Deed → Prop
  | .ord ls => 1 ≤ ls.length ∧ ls.length ≤ 20 ∧ (∀ l ∈ ls, l.good) ∧ us.length < 40
  | _ => True
inductive Step (us : List Or) : Deed → List Or → List (Int × Int) → Prop
  | ord (ls : List Ln) : Step us (.ord ls) (us ++ [newOr ls]) []
  | pay (o : Nat) (n : Int) (u : Or) (hu : us[o]? = some u) (h1 : 1 ≤ n) : Step us (.pay o n) (us.set o (payOr u sPay n)) [((o : Int), -n)]
  | ref (o : Nat) (n : Int) (u : Or) (hu : us[o]? = some u) (h1 : 1 ≤ n) (h2 : n ≤ 0 - u.owed) : Step us (.ref o n) (us.set o (payOr u sRef (0 - n))) [((o : Int), n)]
  | mov (o p : Nat) (n : Int) (u u' : Or) (hu : us[o]? = some u) (hu' : us[p]? = some u') (hop : o ≠ p) (h1 : 1 ≤ n) (h2 : n ≤ 0 - u.owed) : Step us (.mov o p n) (movOr us o p u u' n) [((o : Int), n), ((p : Int), -n)]
  | lin (w : Wd) (o k : Nat) (n : Int) (u : Or) (l : Ln) (hu : us[o]? = some u) (hl : u.lines[k]? = some l) (h1 : 1 ≤ n) (h2 : n ≤ mostOf w l) : Step us (.lin w o k n) (us.set o (upL w u k l n)) [((o : Int), (behindL w l n).charge - l.charge)]
section
variable {T : Nat → Option Fn} {t : Bool} {d : Nat} {σ : Sto} {b e h : Nat} {us : List Or} {hs : List V}
end
noncomputable def toldCls (c : Cls) : Bool := c != .FlowError && c != .NothingDone && c != .ValueError
theorem zEf {n m : Int} {c : Cls} (h : errN n m = some c) : toldCls c = true := by
  unfold errN at h
  split at h
  · cases h; rfl
  · split at h
    · cases h; rfl
    · cases h
theorem Deed.told {us : List Or} {D : Deed} {c : Cls} (h : D.err us = some c) : toldCls c = true := by
  cases D with
  | ord ls => cases h
  | pay o n =>
    have h : errP1 n (atI us o) = some c := h
    cases ho : atI us o with
    | none => rw [ho] at h; cases h; rfl
    | some u =>
      rw [ho] at h
      have h : (if n < 1 then some Cls.NoNumber else none) = some c := h
      split at h
      · cases h; rfl
      · cases h
  | ref o n =>
    have h : errR1 n (atI us o) = some c := h
    cases ho : atI us o with
    | none => rw [ho] at h; cases h; rfl
    | some u => rw [ho] at h; exact zEf h
  | mov o p n =>
    have h : errM1 us o p n (atI us o) = some c := h
    cases ho : atI us o with
    | none => rw [ho] at h; cases h; rfl
    | some u =>
      rw [ho] at h
      have h : errM2 u o p n (atI us p) = some c := h
      cases hp : atI us p with
      | none => rw [hp] at h; cases h; rfl
      | some u' =>
        rw [hp] at h
        have h : (if (o == p) = true then some Cls.SameOrder else errN n (0 - u.owed)) = some c := h
        split at h
        · cases h; rfl
        · exact zEf h
  | lin w o k n =>
    have h : errU w k n (atI us o) = some c := h
    cases ho : atI us o with
    | none => rw [ho] at h; cases h; rfl
    | some u =>
      rw [ho] at h
      have h : errK w n (atI u.lines k) = some c := h
      cases hk : atI u.lines k with
      | none => rw [hk] at h; cases h; rfl
      | some l => rw [hk] at h; exact zEf h
section
variable {T : Nat → Option Fn} {t : Bool} {d k : Nat} {σ σ' : Sto} {b : Nat}
noncomputable def Deed.raw (m : Nat) : Deed → V
  | .ord ls => .tup [.str sOrd, .ref m]
  | D => D.v
theorem Deed.read {D : Deed} {x : V} : readVar [x, D.v] 1 = some D.v := by cases D <;> rfl
end
end Mine
end

/-! # GD -/
section
set_option autoImplicit false
namespace Mine
open PySem
structure Ln.inv (l : Ln) : Prop where
  ok : l.ok
  a0 : 0 ≤ l.a
  ab : l.a ≤ l.b
  bs : l.b ≤ l.s
  sp : l.s ≤ l.p + l.a
  r0 : 0 ≤ l.r
  rw : l.r ≤ l.worth
theorem worth_mono {x y c k : Int} (h : x ≤ y) (hc : 0 ≤ c) (hk : 1 ≤ k) : (x * c).fdiv k ≤ (y * c).fdiv k := by
  have k0 : 0 ≤ k := Int.le_trans (by decide) hk
  rw [Int.fdiv_eq_ediv_of_nonneg _ k0, Int.fdiv_eq_ediv_of_nonneg _ k0]
  exact Int.ediv_le_ediv (Int.lt_of_lt_of_le (by decide) hk) (Int.mul_le_mul_of_nonneg_right h hc)
theorem zBP {x c k : Int} (h : 0 ≤ x) (hc : 0 ≤ c) (hk : 1 ≤ k) : 0 ≤ (x * c).fdiv k := by
  have k0 : 0 ≤ k := Int.le_trans (by decide) hk
  rw [Int.fdiv_eq_ediv_of_nonneg _ k0]
  exact Int.ediv_nonneg (Int.mul_nonneg h hc) k0
theorem Ln.inv.charge {l : Ln} (h : l.inv) : 0 ≤ l.charge := Int.sub_nonneg_of_le h.rw
theorem pmin_le (x y : Int) : pmin x y ≤ y ∧ pmin x y ≤ x ∧ (0 ≤ x → 0 ≤ y → 0 ≤ pmin x y) := by
  unfold pmin; split
  · rename_i h; exact ⟨Int.le_refl _, Int.le_of_lt h, fun _ hy => hy⟩
  · rename_i h; exact ⟨Int.not_lt.mp h, Int.le_refl _, fun hx _ => hx⟩
theorem some_more {p s a n : Int} (h : n ≤ p - s + a) : s + n ≤ p + a := by omega
theorem Ln.inv.behind {l : Ln} (h : l.inv) {w : Wd} {n : Int} (h1 : 1 ≤ n) (h2 : n ≤ mostOf w l) : (behindL w l n).inv := by
  have hn : 0 ≤ n := Int.le_trans (by decide) h1
  cases w with
  | del => exact ⟨zAr h.ok, h.a0, h.ab, Int.le_trans h.bs (Int.le_add_of_nonneg_right hn), some_more h2, h.r0, Int.le_trans h.rw (worth_mono (Int.sub_le_sub_right (Int.le_add_of_nonneg_right hn) l.b) h.ok.c1 h.ok.k1)⟩
  | cred => exact ⟨zAr h.ok, h.a0, h.ab, h.bs, h.sp, Int.add_nonneg h.r0 hn, Int.add_le_of_le_sub_left h2⟩
  | back =>
    have hp := pmin_le l.r (((l.s - (l.b + n)) * l.c).fdiv l.k)
    have hb : l.b + n ≤ l.s := Int.add_le_of_le_sub_left h2
    exact ⟨zAr h.ok, h.a0, Int.le_trans h.ab (Int.le_add_of_nonneg_right hn), hb, h.sp, hp.2.2 h.r0 (zBP (Int.sub_nonneg_of_le hb) h.ok.c1 h.ok.k1), hp.1⟩
  | swap =>
    have hp := pmin_le l.r (((l.s - (l.b + n)) * l.c).fdiv l.k)
    have hb : l.b + n ≤ l.s := Int.add_le_of_le_sub_left h2
    exact ⟨zAr h.ok, Int.add_nonneg h.a0 hn, Int.add_le_add_right h.ab n, hb, Int.le_trans h.sp (Int.add_le_add_left (Int.le_add_of_nonneg_right hn) _), hp.2.2 h.r0 (zBP (Int.sub_nonneg_of_le hb) h.ok.c1 h.ok.k1), hp.1⟩
theorem Ln.good.inv {l : Ln} (h : l.good) : l.fresh.inv :=
  ⟨h.ok.fresh, Int.le_refl _, Int.le_refl _, Int.le_refl _, Int.add_nonneg (Int.le_trans (by decide) h.ok.p1) (Int.le_refl 0), Int.le_refl _, zBP (Int.le_refl _) h.ok.c1 h.ok.k1⟩
structure Or.inv (u : Or) : Prop where
  few : u.lines.length ≤ 20
  ls : ∀ l ∈ u.lines, l.inv
  paid0 : 0 ≤ u.paid
  sum : (u.rows.map (·.2)).sum = u.owed
theorem Or.inv.ok {u : Or} (h : u.inv) : u.ok := ⟨h.few, fun l hl => (h.ls l hl).ok⟩
theorem zEp : ∀ {l : List Int}, (∀ x ∈ l, 0 ≤ x) → 0 ≤ l.sum
  | [], _ => Int.le_refl _
  | x :: l, h => by
    rw [List.sum_cons]
    have h1 := h x List.mem_cons_self
    exact Int.add_nonneg h1 (zEp fun y hy => h y (List.mem_cons_of_mem x hy))
theorem zGk : ∀ {l : List Int} {k : Nat} {x y : Int}, l[k]? = some y → (l.set k x).sum = l.sum + (x - y)
  | [], _, _, _, h => by cases h
  | z :: l, 0, x, y, h => by
    obtain rfl : z = y := by simpa using h
    rw [List.set_cons_zero, List.sum_cons, List.sum_cons, Int.add_comm z l.sum, Int.add_assoc, Int.add_comm x]; exact congrArg _ (by rw [Int.add_comm, Int.sub_add_cancel])
  | z :: l, k + 1, x, y, h => by
    rw [List.set_cons_succ, List.sum_cons, List.sum_cons, zGk (l := l) (k := k) (by simpa using h), Int.add_assoc]
theorem sum_append (a b : List Int) : (a ++ b).sum = a.sum + b.sum := by
  induction a with
  | nil => rw [List.nil_append, List.sum_nil, Int.zero_add]
  | cons x a ih => rw [List.cons_append, List.sum_cons, List.sum_cons, ih, Int.add_assoc]
theorem zAn (u : Or) (w : Str) (c : Int) : (payOr u w c).owed = u.owed - c := (Int.sub_sub _ u.paid c).symm
theorem zGp {u : Or} {k : Nat} {l : Ln} (hl : u.lines[k]? = some l) (w : Wd) (n : Int) : (upL w u k l n).owed = u.owed + ((behindL w l n).charge - l.charge) := by
  show ((u.lines.set k (behindL w l n)).map Ln.charge).sum - u.paid = (u.lines.map Ln.charge).sum - u.paid + _
  rw [List.map_set, zGk (y := l.charge) (by rw [List.getElem?_map, hl]; rfl)]; exact Int.add_right_comm _ _ _
theorem zHf (ls : List Ln) (h : ∀ l ∈ ls, l.good) : (newOr ls).owed = 0 := by
  show ((ls.map Ln.fresh).map Ln.charge).sum - 0 = 0
  rw [Int.sub_zero, List.map_map]
  have : ∀ ls : List Ln, (∀ l ∈ ls, l.good) → (ls.map (Ln.charge ∘ Ln.fresh)).sum = 0 := fun ls => by
    induction ls with
    | nil => intro _; rfl
    | cons l ls ih =>
      intro h
      rw [List.map_cons, List.sum_cons, ih fun l hl => h l (List.mem_cons_of_mem _ hl)]
      show ((0 - 0) * l.c).fdiv l.k - 0 + 0 = 0
      rw [Int.sub_self, Int.zero_mul, Int.zero_fdiv]; rfl
  exact this ls h
theorem zAT {α : Type} {l : List α} {k : Nat} {x y : α} (h : y ∈ l.set k x) : y ∈ l ∨ y = x := List.mem_or_eq_of_mem_set h
theorem Or.inv.pay {u : Or} (h : u.inv) (w : Str) {c : Int} (hp : 0 ≤ u.paid + c) : (payOr u w c).inv := by
  refine ⟨h.few, h.ls, hp, ?_⟩
  rw [zAn]
  show ((u.rows ++ [(w, 0 - c)]).map (·.2)).sum = _
  rw [List.map_append, sum_append, h.sum]
  show u.owed + (0 - c + 0) = u.owed - c; rw [Int.add_zero, Int.zero_sub]; rfl
theorem Or.inv.up {u : Or} (h : u.inv) {k : Nat} {l : Ln} (hl : u.lines[k]? = some l) {w : Wd} {n : Int} (h1 : 1 ≤ n) (h2 : n ≤ mostOf w l) : (upL w u k l n).inv := by
  refine ⟨?_, fun m hm => ?_, h.paid0, ?_⟩
  · show (u.lines.set k _).length ≤ 20; rw [List.length_set]; exact h.few
  · rcases zAT hm with hm | rfl
    · exact h.ls m hm
    · exact (h.ls l (List.mem_of_getElem? hl)).behind h1 h2
  · rw [zGp hl]
    show ((u.rows ++ [(w.s, (behindL w l n).charge - l.charge)]).map (·.2)).sum = _
    rw [List.map_append, sum_append, h.sum]
    show u.owed + ((behindL w l n).charge - l.charge + 0) = _; rw [Int.add_zero]
theorem back_of {s p n : Int} (h : 0 ≤ s) (h2 : n ≤ 0 - (s - p)) : 0 ≤ p + (0 - n) := by omega
theorem Or.inv.back {u : Or} (h : u.inv) {n : Int} (h2 : n ≤ 0 - u.owed) : 0 ≤ u.paid + (0 - n) := by
  have h3 : 0 ≤ (u.lines.map Ln.charge).sum := zEp fun x hx => by
    obtain ⟨l, hl, rfl⟩ := List.mem_map.mp hx
    exact (h.ls l hl).charge
  exact back_of h3 h2
theorem newOr_inv {ls : List Ln} (h2 : ls.length ≤ 20) (h : ∀ l ∈ ls, l.good) : (newOr ls).inv := by
  refine ⟨by show (ls.map Ln.fresh).length ≤ 20; rw [List.length_map]; exact h2, fun m hm => ?_, Int.le_refl _, (zHf ls h).symm⟩
  obtain ⟨l, hl, rfl⟩ := List.mem_map.mp hm
  exact (h l hl).inv
section
variable {us us' : List Or} {D : Deed} {out : List (Int × Int)}
theorem Step.inv (S : Step us D us' out) (hf : D.fit us) (h : ∀ u ∈ us, u.inv) : ∀ u ∈ us', u.inv := fun v hv => by
  cases S with
  | ord ls =>
    rcases List.mem_append.mp hv with hv | hv
    · exact h v hv
    · rw [List.mem_singleton.mp hv]; exact newOr_inv hf.2.1 hf.2.2.1
  | pay o n u hu h1 =>
    rcases zAT hv with hv | rfl
    · exact h v hv
    · have := h u (List.mem_of_getElem? hu)
      exact this.pay _ (Int.add_nonneg this.paid0 (Int.le_trans (by decide) h1))
  | ref o n u hu h1 h2 =>
    rcases zAT hv with hv | rfl
    · exact h v hv
    · have := h u (List.mem_of_getElem? hu)
      exact this.pay _ (this.back h2)
  | mov o p n u u' hu hu' hop h1 h2 =>
    have i1 := h u (List.mem_of_getElem? hu)
    have i2 := h u' (List.mem_of_getElem? hu')
    rcases zAT hv with hv | rfl
    · rcases zAT hv with hv | rfl
      · exact h v hv
      · exact i1.pay _ (i1.back h2)
    · exact i2.pay _ (Int.add_nonneg i2.paid0 (Int.le_trans (by decide) h1))
  | lin w o k n u l hu hl h1 h2 =>
    rcases zAT hv with hv | rfl
    · exact h v hv
    · exact (h u (List.mem_of_getElem? hu)).up hl h1 h2
theorem Step.rows (S : Step us D us' out) {R : Nat} (h : ∀ u ∈ us, u.rows.length ≤ R) : ∀ u ∈ us', u.rows.length ≤ R + 1 := fun v hv => by
  have pay : ∀ {u : Or} {w : Str} {c : Int}, u ∈ us → (payOr u w c).rows.length ≤ R + 1 := fun {u w c} hu => by
    show (u.rows ++ [_]).length ≤ R + 1
    rw [List.length_append]; exact Nat.succ_le_succ (h u hu)
  cases S with
  | ord ls =>
    rcases List.mem_append.mp hv with hv | hv
    · exact Nat.le_succ_of_le (h v hv)
    · rw [List.mem_singleton.mp hv]; exact Nat.zero_le _
  | pay o n u hu h1 =>
    rcases zAT hv with hv | rfl
    · exact Nat.le_succ_of_le (h v hv)
    · exact pay (List.mem_of_getElem? hu)
  | ref o n u hu h1 h2 =>
    rcases zAT hv with hv | rfl
    · exact Nat.le_succ_of_le (h v hv)
    · exact pay (List.mem_of_getElem? hu)
  | mov o p n u u' hu hu' hop h1 h2 =>
    rcases zAT hv with hv | rfl
    · rcases zAT hv with hv | rfl
      · exact Nat.le_succ_of_le (h v hv)
      · exact pay (List.mem_of_getElem? hu)
    · exact pay (List.mem_of_getElem? hu')
  | lin w o k n u l hu hl h1 h2 =>
    rcases zAT hv with hv | rfl
    · exact Nat.le_succ_of_le (h v hv)
    · show (u.rows ++ [_]).length ≤ R + 1
      rw [List.length_append]; exact Nat.succ_le_succ (h u (List.mem_of_getElem? hu))
noncomputable def cents (out : List (Int × Int)) (a : Int) : List Int := (out.filter fun p => p.1 == a).map (·.2)
noncomputable def Deed.lined : Deed → Bool
  | .lin _ _ _ _ => true
  | _ => false
structure Turned (D : Deed) (u u' : Or) (cs : List Int) : Prop where
  paid : D.lined = true → u'.paid = u.paid
  told : D.lined = false → u'.lines.map toldV = u.lines.map toldV
  one : cs.length ≤ 1
  owed : u'.owed - u.owed = cs.sum
  same : cs = [] → u' = u
  raw : u'.lines.map Ln.raw = u.lines.map Ln.raw
theorem Turned.refl (D : Deed) (u : Or) : Turned D u u [] := ⟨fun _ => rfl, fun _ => rfl, Nat.zero_le _, Int.sub_self _, fun _ => rfl, rfl⟩
theorem raw_behind {w : Wd} {l : Ln} {n : Int} : (behindL w l n).raw = l.raw := by cases w <;> rfl
theorem set_same {α β : Type} {f : α → β} {l : List α} {k : Nat} {x y : α} (h : l[k]? = some y) (e : f x = f y) : (l.set k x).map f = l.map f := by
  rw [List.map_set, e]
  apply List.ext_getElem?
  intro i
  rw [List.getElem?_set]
  split
  · rename_i hk; subst hk
    rw [List.length_map, if_pos (List.getElem?_eq_some_iff.mp h).1, List.getElem?_map, h]; rfl
  · rfl
theorem Step.at (S : Step us D us' out) {a : Nat} {u : Or} (ha : us[a]? = some u) : ∃ u', us'[a]? = some u' ∧ Turned D u u' (cents out a) := by
  have lt : a < us.length := (List.getElem?_eq_some_iff.mp ha).1
  have ne1 : ∀ {o : Nat} {x : Int}, o ≠ a → cents [((o : Int), x)] a = [] := fun {o x} h => by
    unfold cents
    rw [List.filter_cons_of_neg (by show ¬ ((o : Int) == (a : Int)) = true; rw [beq_iff_eq]; omega)]; rfl
  have eq1 : ∀ {x : Int}, cents [((a : Int), x)] a = [x] := fun {x} => by
    unfold cents
    rw [List.filter_cons_of_pos (by show ((a : Int) == (a : Int)) = true; exact beq_self_eq_true _)]; rfl
  have two : ∀ {o p : Int} {x y : Int}, cents [(o, x), (p, y)] a = cents [(o, x)] a ++ cents [(p, y)] a := fun {o p x y} => by
    unfold cents
    rw [← List.map_append, ← List.filter_append]; rfl
  cases S with
  | ord ls => exact ⟨u, by rw [List.getElem?_append_left lt]; exact ha, .refl _ u⟩
  | pay o n v hu h1 =>
    by_cases h : o = a
    · subst h; rw [ha] at hu; cases hu
      refine ⟨_, List.getElem?_set_self lt, ?_⟩
      rw [eq1]
      exact ⟨fun h => (nomatch h), fun _ => rfl, Nat.le_refl _, by rw [zAn]; show _ = -n + 0; omega, fun h => (nomatch h), rfl⟩
    · refine ⟨u, by rw [List.getElem?_set_ne h]; exact ha, ?_⟩
      rw [ne1 h]; exact .refl _ u
  | ref o n v hu h1 h2 =>
    by_cases h : o = a
    · subst h; rw [ha] at hu; cases hu
      refine ⟨_, List.getElem?_set_self lt, ?_⟩
      rw [eq1]
      exact ⟨fun h => (nomatch h), fun _ => rfl, Nat.le_refl _, by rw [zAn]; show _ = n + 0; omega, fun h => (nomatch h), rfl⟩
    · refine ⟨u, by rw [List.getElem?_set_ne h]; exact ha, ?_⟩
      rw [ne1 h]; exact .refl _ u
  | mov o p n v v' hu hu' hop h1 h2 =>
    rw [two]
    by_cases h : p = a
    · subst h; rw [ha] at hu'; cases hu'
      refine ⟨_, List.getElem?_set_self (by rw [List.length_set]; exact lt), ?_⟩
      rw [eq1, ne1 hop]
      exact ⟨fun h => (nomatch h), fun _ => rfl, Nat.le_refl _, by rw [zAn]; show _ = -n + 0; omega, fun h => (nomatch h), rfl⟩
    · rw [ne1 h, List.append_nil]
      unfold movOr
      rw [List.getElem?_set_ne h]
      by_cases h : o = a
      · subst h; rw [ha] at hu; cases hu
        refine ⟨_, List.getElem?_set_self lt, ?_⟩
        rw [eq1]
        exact ⟨fun h => (nomatch h), fun _ => rfl, Nat.le_refl _, by rw [zAn]; show _ = n + 0; omega, fun h => (nomatch h), rfl⟩
      · refine ⟨u, by rw [List.getElem?_set_ne h]; exact ha, ?_⟩
        rw [ne1 h]; exact .refl _ u
  | lin w o k n v l hu hl h1 h2 =>
    by_cases h : o = a
    · subst h; rw [ha] at hu; cases hu
      refine ⟨_, List.getElem?_set_self lt, ?_⟩
      rw [eq1]
      exact ⟨fun _ => rfl, fun h => (nomatch h), Nat.le_refl _, by rw [zGp hl]; show _ = _ + 0; omega, fun h => (nomatch h), set_same hl raw_behind⟩
    · refine ⟨u, by rw [List.getElem?_set_ne h]; exact ha, ?_⟩
      rw [ne1 h]; exact .refl _ u
theorem zAl {us : List Or} {o : Nat} {u u' : Or} (hu : us[o]? = some u) : ((us.set o u').map Or.owed).sum = (us.map Or.owed).sum + (u'.owed - u.owed) := by
  rw [List.map_set, zGk (y := u.owed) (by rw [List.getElem?_map, hu]; rfl)]
theorem Step.sum (S : Step us D us' out) (hf : D.fit us) : (out.map (·.2)).sum = (us'.map Or.owed).sum - (us.map Or.owed).sum := by
  cases S with
  | ord ls =>
    rw [List.map_append, sum_append]
    show 0 = (us.map Or.owed).sum + ((newOr ls).owed + 0) - _
    rw [zHf ls hf.2.2.1]; omega
  | pay o n u hu h1 => rw [zAl hu, zAn]; show -n + 0 = _; omega
  | ref o n u hu h1 h2 => rw [zAl hu, zAn]; show n + 0 = _; omega
  | mov o p n u u' hu hu' hop h1 h2 =>
    unfold movOr
    rw [zAl (u := u') (by rw [List.getElem?_set_ne hop]; exact hu'), zAl hu, zAn, zAn]; show n + (-n + 0) = _; omega
  | lin w o k n u l hu hl h1 h2 => rw [zAl hu, zGp hl]; show (behindL w l n).charge - l.charge + 0 = _; omega
theorem Step.few (S : Step us D us' out) : out.length ≤ 2 := by
  cases S <;> first | exact (by decide : 0 ≤ 2) | exact (by decide : 1 ≤ 2) | exact (by decide : 2 ≤ 2)
theorem Step.len (S : Step us D us' out) : us'.length = us.length + (match D with | .ord _ => 1 | _ => 0) := by
  cases S with
  | ord ls => rw [List.length_append]; rfl
  | pay o n u hu h1 => rw [List.length_set]; rfl
  | ref o n u hu h1 h2 => rw [List.length_set]; rfl
  | mov o p n u u' hu hu' hop h1 h2 => unfold movOr; rw [List.length_set, List.length_set]; rfl
  | lin w o k n u l hu hl h1 h2 => rw [List.length_set]; rfl
end
end Mine
end

/-! # GE -/
section
set_option autoImplicit false
namespace Mine
open PySem
theorem zGQ {f : V → Option PyData} (h : ∀ v x, f v = some x → PyData.eqv x x = true) : ∀ (xs : List V) (ys : List PyData), xs.mapM f = some ys → PyData.eqvAll ys ys = true
  | [], ys, e => by
    rw [List.mapM_nil] at e
    cases e; rfl
  | x :: xs, ys, e => by
    rw [List.mapM_cons] at e
    cases hx : f x with
    | none => rw [hx] at e; cases e
    | some y =>
      rw [hx] at e
      cases hr : xs.mapM f with
      | none => rw [hr] at e; cases e
      | some r =>
        rw [hr] at e
        cases e
        rw [PyData.eqvAll, h x y hx, zGQ h xs r hr]; rfl
theorem zFY (σ : Sto) : ∀ (d : Nat) (v : V) (x : PyData), toPy σ d v = some x → PyData.eqv x x = true
  | 0, v, x, h => by cases h
  | d + 1, v, x, h => by
    have lst : ∀ {o : Option PyData} {c : List PyData → PyData} {xs : List V}, (∀ ys, PyData.eqv (c ys) (c ys) = PyData.eqvAll ys ys) → (xs.mapM (toPy σ d)).map c = some x → PyData.eqv x x = true := fun {o c xs} hc h => by
      obtain ⟨ys, hy, rfl⟩ := Option.map_eq_some_iff.mp h
      rw [hc]; exact zGQ (zFY σ d) xs ys hy
    cases v with
    | undef => cases h
    | none => cases h; rfl
    | bool b => cases h; exact beq_self_eq_true b
    | int i => cases h; exact beq_self_eq_true i
    | str s => cases h; exact beq_self_eq_true s
    | tup xs => exact lst (o := none) (c := .tuple) (fun _ => rfl) h
    | lst xs => exact lst (o := none) (c := .list) (fun _ => rfl) h
    | ref n =>
      have h : toPyO (toPy σ d) σ[n]? = some x := h
      cases ho : σ[n]? with
      | none => rw [ho] at h; cases h
      | some o =>
        rw [ho] at h
        cases o with
        | list xs => exact lst (o := none) (c := .list) (fun _ => rfl) h
        | dict es => cases h
        | inst as => cases h
    | exc c => cases h
    | parts => cases h
noncomputable def Has (σ : Sto) (d : Nat) (v : V) : Prop := ∃ x, toPy σ d v = some x
theorem has_all {σ : Sto} {d : Nat} : ∀ {xs : List V}, (∀ x ∈ xs, Has σ d x) → ∃ ys, xs.mapM (toPy σ d) = some ys
  | [], _ => ⟨[], rfl⟩
  | x :: xs, h => by
    obtain ⟨y, hy⟩ := h x List.mem_cons_self
    obtain ⟨ys, hys⟩ := has_all fun z hz => h z (List.mem_cons_of_mem x hz)
    exact ⟨y :: ys, by rw [List.mapM_cons, hy, hys]; rfl⟩
theorem has_ref {σ : Sto} {d n : Nat} {xs : List V} (hn : σ[n]? = some (.list xs)) (h : ∀ x ∈ xs, Has σ d x) : ∃ x, toPy σ (d + 1) (.ref n) = some x ∧ toPyO (toPy σ d) (some (.list xs)) = some x := by
  obtain ⟨ys, hy⟩ := has_all h
  refine ⟨.list ys, ?_, by show (xs.mapM (toPy σ d)).map PyData.list = _; rw [hy]; rfl⟩
  show toPyO (toPy σ d) σ[n]? = _
  rw [hn]
  show (xs.mapM (toPy σ d)).map PyData.list = _; rw [hy]; rfl
theorem eqV_of {σ : Sto} {a b : V} {x : PyData} (ha : toPy σ eqDepth a = some x) (hb : toPy σ eqDepth b = some x) (hl : ∀ xs ys, listOf? σ a = some xs → listOf? σ b = some ys → xs.length = ys.length) : eqV σ a b = some true := by
  have e : eqV.eqD σ a b = some true := by
    show ((toPy σ eqDepth a).bind fun x => (toPy σ eqDepth b).map fun y => PyData.eqv x y) = _
    rw [ha, hb]
    show some (PyData.eqv x x) = _
    rw [zFY σ _ _ _ ha]
  unfold eqV
  split
  · rename_i xs ys h1 h2
    rw [hl xs ys h1 h2, bne_self_eq_false]; exact e
  · exact e
theorem zHN {σ : Sto} {v : V} (h : Has σ eqDepth v) : eqV σ v v = some true := by
  obtain ⟨x, h⟩ := h
  exact eqV_of h h fun xs ys h1 h2 => by rw [h1] at h2; cases h2; rfl
theorem zEU {σ : Sto} {v : V} (h : Has σ eqDepth v) : ev2 .ne σ v v = some (.bool false) := by
  show (eqV σ v v).map _ = _
  rw [zHN h]; rfl
theorem ne_refs {σ : Sto} {m n : Nat} {xs : List V} (hm : σ[m]? = some (.list xs)) (hn : σ[n]? = some (.list xs)) (h : ∀ x ∈ xs, Has σ 7 x) : ev2 .ne σ (.ref m) (.ref n) = some (.bool false) := by
  obtain ⟨x, h1, h2⟩ := has_ref hm h
  obtain ⟨y, h3, h4⟩ := has_ref hn h
  rw [h2] at h4; cases h4
  show (eqV σ (.ref m) (.ref n)).map _ = _
  rw [eqV_of h1 h3 fun xs ys h1 h2 => by
    have h1 : listR σ[m]? = some xs := h1
    have h2 : listR σ[n]? = some ys := h2
    rw [hm] at h1; rw [hn] at h2; cases h1; cases h2; rfl]; rfl
inductive W8 where
  | lin (w : Wd) | pay | ref | mov | ord
noncomputable def W8.s : W8 → Str
  | .lin w => w.s
  | .pay => sPay
  | .ref => sRef
  | .mov => sMove
  | .ord => sOrd
end Mine
end

/-! # P05 -/
section
set_option autoImplicit false
namespace Mine
open PySem
noncomputable def trks05 : List (Nat × Nat × Nat) := [(80,23,25),(81,23,25),(218,19,21),(232,17,19),(315,18,34)]
noncomputable def f05_33 : Fn := { params := 1, slots := 1, body := [CS.stuck] }
noncomputable def f05_9 : Fn := { params := 1, slots := 3, body := [CS.ite (CE.p2 P2.eq (CE.attr (CE.var 0) 1) (CE.list [])) [CS.raise (Cls.NothingDone)] [],CS.asg 1 (CE.pop (CE.attr (CE.var 0) 1)),CS.ite (CE.p2 P2.eq (CE.p2 P2.index (CE.p2 P2.index (CE.var 1) (CE.lit (V.int 0))) (CE.lit (V.int 0))) (CE.lit (V.str { cps := #[111,114,100,101,114] }))) [CS.exp (CE.pop (CE.attr (CE.var 0) 0)),CS.ret (CE.tup [CE.lit (V.str { cps := #[111,114,100,101,114] }),CE.p1 P1.toList (CE.p2 P2.index (CE.p2 P2.index (CE.var 1) (CE.lit (V.int 0))) (CE.lit (V.int 1)))])] [],CS.for 2 SK.val [CE.p2 P2.index (CE.var 1) (CE.lit (V.int 1))] [CS.setItem (CE.attr (CE.var 0) 0) (CE.var 2) (CE.p2 P2.index (CE.p2 P2.index (CE.var 1) (CE.lit (V.int 1))) (CE.var 2))],CS.ret (CE.p2 P2.index (CE.var 1) (CE.lit (V.int 0)))] }
noncomputable def f05_15 : Fn := { params := 2, slots := 2, body := [CS.exp (CE.call 33 [CE.lit (V.int 0)])] }
noncomputable def f05_16 : Fn := { params := 1, slots := 1, body := [CS.exp (CE.call 33 [CE.lit (V.int 1)])] }
noncomputable def zHJ : Fn := { params := 2, slots := 2, body := [CS.ite (CE.p2 P2.lt (CE.var 1) (CE.p1 P1.len (CE.var 0))) [CS.ret (CE.p2 P2.index (CE.var 0) (CE.var 1))] [],CS.ret (CE.lit (V.int 0))] }
noncomputable def zAv : Fn := { params := 2, slots := 6, body := [CS.asg 2 (CE.lit (V.str { cps := #[97,98,99,100,101,102,103,104,105,106,107,108,109,110,111,112,113,114,115,116,117,118,119,120,121,122] })),CS.asg 3 (CE.sm P2.join (CE.lit (V.str { cps := #[] })) (CE.comp (CE.p2 P2.index (CE.var 2) (CE.p2 P2.mod (CE.p2 P2.add (CE.p2 P2.add (CE.var 0) (CE.p2 P2.mul (CE.p2 P2.fdiv (CE.var 0) (CE.lit (V.int 26))) (CE.var 6))) (CE.p2 P2.mul (CE.lit (V.int 3)) (CE.var 6))) (CE.lit (V.int 26)))) SK.range1 [CE.p2 P2.add (CE.lit (V.int 1)) (CE.p2 P2.mod (CE.p2 P2.fdiv (CE.var 0) (CE.lit (V.int 7))) (CE.lit (V.int 12)))] none)),CS.ite (CE.p2 P2.eq (CE.var 1) (CE.lit (V.int 1))) [CS.ret (CE.lit (V.str { cps := #[] }))] [],CS.ite (CE.p2 P2.eq (CE.var 1) (CE.lit (V.int 2))) [CS.ret (CE.slice (CE.p2 P2.add (CE.var 3) (CE.lit (V.str { cps := #[97,98,99,100,101,102,103,104,105,106,107,108,109] }))) none (some (CE.p2 P2.add (CE.lit (V.int 13)) (CE.p2 P2.mod (CE.var 0) (CE.lit (V.int 3))))))] [],CS.ite (CE.p2 P2.eq (CE.var 1) (CE.lit (V.int 3))) [CS.asg 4 (CE.lit (V.str { cps := #[32,65,90,48,57,95,45,46,44,123,96,64,91,126,122,10] })),CS.asg 5 (CE.p2 P2.mod (CE.p2 P2.fdiv (CE.var 0) (CE.lit (V.int 3))) (CE.p1 P1.len (CE.var 3))),CS.ret (CE.p2 P2.add (CE.p2 P2.add (CE.slice (CE.var 3) none (some (CE.var 5))) (CE.p2 P2.index (CE.var 4) (CE.p2 P2.mod (CE.var 0) (CE.lit (V.int 16))))) (CE.slice (CE.var 3) (some (CE.p2 P2.add (CE.var 5) (CE.lit (V.int 1)))) none))] [],CS.ret (CE.var 3)] }
noncomputable def f05_103 : Fn := { params := 4, slots := 5, body := [CS.ite (CE.p2 P2.eq (CE.var 1) (CE.lit (V.int 1))) [CS.ret (CE.p2 P2.sub (CE.p2 P2.sub (CE.var 2) (CE.lit (V.int 1))) (CE.p2 P2.mod (CE.var 0) (CE.lit (V.int 3))))] [],CS.ite (CE.p2 P2.eq (CE.var 1) (CE.lit (V.int 2))) [CS.ret (CE.p2 P2.add (CE.p2 P2.add (CE.var 3) (CE.lit (V.int 1))) (CE.p2 P2.mod (CE.var 0) (CE.lit (V.int 3))))] [],CS.asg 4 (CE.p2 P2.mod (CE.var 0) (CE.lit (V.int 5))),CS.ite (CE.p2 P2.eq (CE.var 4) (CE.lit (V.int 0))) [CS.ret (CE.var 2)] [],CS.ite (CE.p2 P2.eq (CE.var 4) (CE.lit (V.int 1))) [CS.ret (CE.var 3)] [],CS.ret (CE.p2 P2.add (CE.var 2) (CE.p2 P2.mod (CE.p2 P2.fdiv (CE.var 0) (CE.lit (V.int 5))) (CE.p2 P2.add (CE.p2 P2.sub (CE.var 3) (CE.var 2)) (CE.lit (V.int 1)))))] }
noncomputable def zCw : Fn := { params := 1, slots := 6, body := [CS.asg 1 (CE.p2 P2.mod (CE.p2 P2.mod (CE.p2 P2.mul (CE.var 0) (CE.lit (V.int 48271))) (CE.lit (V.int 10007))) (CE.lit (V.int 14))),CS.asg 2 (CE.p2 P2.mod (CE.p2 P2.mod (CE.p2 P2.mul (CE.var 0) (CE.lit (V.int 48271))) (CE.lit (V.int 10009))) (CE.lit (V.int 14))),CS.asg 3 (CE.trk (CE.list [])),CS.for 4 SK.range1 [CE.lit (V.int 3)] [CS.asg 5 (CE.lit (V.int 0)),CS.ite (CE.or (CE.p2 P2.eq (CE.var 1) (CE.p2 P2.add (CE.lit (V.int 4)) (CE.p2 P2.mul (CE.lit (V.int 2)) (CE.var 4)))) (CE.p2 P2.eq (CE.var 2) (CE.p2 P2.add (CE.lit (V.int 4)) (CE.p2 P2.mul (CE.lit (V.int 2)) (CE.var 4))))) [CS.asg 5 (CE.lit (V.int 1))] [CS.ite (CE.or (CE.p2 P2.eq (CE.var 1) (CE.p2 P2.add (CE.lit (V.int 5)) (CE.p2 P2.mul (CE.lit (V.int 2)) (CE.var 4)))) (CE.p2 P2.eq (CE.var 2) (CE.p2 P2.add (CE.lit (V.int 5)) (CE.p2 P2.mul (CE.lit (V.int 2)) (CE.var 4))))) [CS.asg 5 (CE.lit (V.int 2))] []],CS.exp (CE.append (CE.var 3) (CE.call 103 [CE.p2 P2.fdiv (CE.var 0) (CE.p2 P2.add (CE.var 4) (CE.lit (V.int 1))),CE.var 5,CE.p2 P2.index (CE.list [CE.lit (V.int 1),CE.lit (V.int 0),CE.lit (V.int 1)]) (CE.var 4),CE.p2 P2.index (CE.list [CE.lit (V.int 1000000),CE.lit (V.int 1000000000),CE.lit (V.int 1000)]) (CE.var 4)]))],CS.ret (CE.tup [CE.call 102 [CE.var 0,CE.var 1],CE.p2 P2.index (CE.var 3) (CE.lit (V.int 0)),CE.p2 P2.index (CE.var 3) (CE.lit (V.int 1)),CE.p2 P2.index (CE.var 3) (CE.lit (V.int 2))])] }
noncomputable def zBp : Fn := { params := 1, slots := 7, body := [CS.asg 1 (CE.p2 P2.mod (CE.call 100 [CE.var 0,CE.lit (V.int 1)]) (CE.lit (V.int 5))),CS.ite (CE.p2 P2.eq (CE.p2 P2.mod (CE.p2 P2.fdiv (CE.call 100 [CE.var 0,CE.lit (V.int 1)]) (CE.lit (V.int 5))) (CE.lit (V.int 3))) (CE.lit (V.int 1))) [CS.asg 1 (CE.p2 P2.mod (CE.p2 P2.mod (CE.p2 P2.mul (CE.call 100 [CE.var 0,CE.lit (V.int 1)]) (CE.lit (V.int 48271))) (CE.lit (V.int 10007))) (CE.lit (V.int 23)))] [],CS.asg 2 (CE.p2 P2.gt (CE.p2 P2.mod (CE.call 100 [CE.var 0,CE.lit (V.int 2)]) (CE.lit (V.int 7))) (CE.lit (V.int 0))),CS.asg 3 (CE.trk (CE.list [])),CS.for 4 SK.range1 [CE.var 1] [CS.asg 5 (CE.p2 P2.add (CE.p2 P2.mul (CE.call 100 [CE.var 0,CE.p2 P2.add (CE.lit (V.int 3)) (CE.p2 P2.mod (CE.var 4) (CE.lit (V.int 7)))]) (CE.p2 P2.add (CE.var 4) (CE.lit (V.int 1)))) (CE.var 4)),CS.asg 6 (CE.p2 P2.mod (CE.p2 P2.mod (CE.p2 P2.mul (CE.call 100 [CE.var 0,CE.lit (V.int 2)]) (CE.lit (V.int 48271))) (CE.lit (V.int 10009))) (CE.p2 P2.max (CE.lit (V.int 1)) (CE.var 1))),CS.ite (CE.and (CE.var 2) (CE.or (CE.p2 P2.ne (CE.var 4) (CE.var 6)) (CE.p2 P2.eq (CE.p2 P2.mod (CE.call 100 [CE.var 0,CE.lit (V.int 2)]) (CE.lit (V.int 3))) (CE.lit (V.int 2))))) [CS.exp (CE.append (CE.var 3) (CE.tup [CE.call 102 [CE.var 5,CE.lit (V.int 0)],CE.p2 P2.add (CE.lit (V.int 1)) (CE.p2 P2.mod (CE.var 5) (CE.lit (V.int 1000000))),CE.p2 P2.mod (CE.var 5) (CE.lit (V.int 1000000001)),CE.p2 P2.add (CE.lit (V.int 1)) (CE.p2 P2.mod (CE.var 5) (CE.lit (V.int 1000)))]))] [CS.exp (CE.append (CE.var 3) (CE.call 104 [CE.var 5]))]],CS.ret (CE.var 3)] }
noncomputable def zBo : Fn := { params := 1, slots := 2, body := [CS.for 1 SK.val [CE.var 0] [CS.ite (CE.p2 P2.notIn (CE.var 1) (CE.lit (V.str { cps := #[97,98,99,100,101,102,103,104,105,106,107,108,109,110,111,112,113,114,115,116,117,118,119,120,121,122] }))) [CS.ret (CE.lit (V.bool false))] []],CS.ret (CE.chain (CE.lit (V.int 0)) [P2.lt, P2.lt] [CE.p1 P1.len (CE.var 0),CE.lit (V.int 13)])] }
noncomputable def zBY : Fn := { params := 2, slots := 3, body := [CS.ite (CE.p1 P1.not (CE.chain (CE.lit (V.int 0)) [P2.lt, P2.lt] [CE.p1 P1.len (CE.var 0),CE.lit (V.int 21)])) [CS.ret (CE.lit (V.str { cps := #[78,111,76,105,110,101,115] }))] [],CS.for 2 SK.val [CE.var 0] [CS.ite (CE.p1 P1.not (CE.call 106 [CE.p2 P2.index (CE.var 2) (CE.lit (V.int 0))])) [CS.ret (CE.lit (V.str { cps := #[78,111,73,116,101,109] }))] [],CS.ite (CE.or (CE.p1 P1.not (CE.chain (CE.lit (V.int 0)) [P2.lt, P2.lt] [CE.p2 P2.index (CE.var 2) (CE.lit (V.int 1)),CE.lit (V.int 1000001)])) (CE.or (CE.p1 P1.not (CE.chain (CE.lit (V.int 0)) [P2.le, P2.le] [CE.p2 P2.index (CE.var 2) (CE.lit (V.int 2)),CE.lit (V.int 1000000000)])) (CE.p1 P1.not (CE.chain (CE.lit (V.int 0)) [P2.lt, P2.lt] [CE.p2 P2.index (CE.var 2) (CE.lit (V.int 3)),CE.lit (V.int 1001)])))) [CS.ret (CE.lit (V.str { cps := #[78,111,78,117,109,98,101,114] }))] []],CS.ite (CE.p2 P2.gt (CE.var 1) (CE.lit (V.int 39))) [CS.ret (CE.lit (V.str { cps := #[70,117,108,108,66,111,111,107] }))] [],CS.ret (CE.lit (V.str { cps := #[] }))] }
noncomputable def zHI : Fn := { params := 2, slots := 2, body := [CS.try TK.ret (CE.callm 2 (CE.var 0) [CE.var 1]) [{ cls := Cls.NoLines, as := none, tk := TK.ret, e := CE.lit (V.str { cps := #[78,111,76,105,110,101,115] }) }, { cls := Cls.NoItem, as := none, tk := TK.ret, e := CE.lit (V.str { cps := #[78,111,73,116,101,109] }) }, { cls := Cls.NoNumber, as := none, tk := TK.ret, e := CE.lit (V.str { cps := #[78,111,78,117,109,98,101,114] }) }, { cls := Cls.FullBook, as := none, tk := TK.ret, e := CE.lit (V.str { cps := #[70,117,108,108,66,111,111,107] }) }]] }
noncomputable def f05_109 : Fn := { params := 1, slots := 2, body := [CS.asg 1 (CE.list [CE.p1 (P1.isInst (Kd.exc (Cls.NoDeed))) (CE.var 0),CE.p1 (P1.isInst (Kd.exc (Cls.NoLines))) (CE.var 0),CE.p1 (P1.isInst (Kd.exc (Cls.NoItem))) (CE.var 0),CE.p1 (P1.isInst (Kd.exc (Cls.NoNumber))) (CE.var 0)]),CS.asg 1 (CE.p2 P2.add (CE.var 1) (CE.list [CE.p1 (P1.isInst (Kd.exc (Cls.FullBook))) (CE.var 0),CE.p1 (P1.isInst (Kd.exc (Cls.NoOrder))) (CE.var 0),CE.p1 (P1.isInst (Kd.exc (Cls.SameOrder))) (CE.var 0)])),CS.asg 1 (CE.p2 P2.add (CE.var 1) (CE.list [CE.p1 (P1.isInst (Kd.exc (Cls.NoLine))) (CE.var 0),CE.p1 (P1.isInst (Kd.exc (Cls.TooMuch))) (CE.var 0),CE.p1 (P1.isInst (Kd.exc (Cls.NothingDone))) (CE.var 0)])),CS.ret (CE.and (CE.p1 (P1.isInst (Kd.exc (Cls.ValueError))) (CE.var 0)) (CE.p2 P2.eq (CE.sm P2.count (CE.var 1) (CE.lit (V.bool true))) (CE.lit (V.int 1))))] }
noncomputable def f05_110 : Fn := { params := 2, slots := 3, body := [CS.try TK.exp (CE.callm 2 (CE.var 0) [CE.var 1]) [{ cls := Cls.FlowError, as := some 2, tk := TK.ret, e := CE.call 109 [CE.var 2] }],CS.ret (CE.lit (V.bool false))] }
noncomputable def zHH : Fn := { params := 2, slots := 4, body := [CS.ite (CE.or (CE.p1 P1.not (CE.p1 (P1.isInst Kd.list) (CE.var 0))) (CE.p2 P2.ne (CE.p1 P1.len (CE.var 0)) (CE.p1 P1.len (CE.var 1)))) [CS.ret (CE.lit (V.bool false))] [],CS.for 2 SK.range1 [CE.p1 P1.len (CE.var 1)] [CS.ite (CE.or (CE.p1 P1.not (CE.p1 (P1.isInst Kd.tuple) (CE.p2 P2.index (CE.var 0) (CE.var 2)))) (CE.p2 P2.ne (CE.p2 P2.index (CE.var 0) (CE.var 2)) (CE.tup [CE.p2 P2.index (CE.p2 P2.index (CE.var 1) (CE.var 2)) (CE.lit (V.int 0)),CE.p2 P2.index (CE.p2 P2.index (CE.var 1) (CE.var 2)) (CE.lit (V.int 1)),CE.lit (V.int 0),CE.lit (V.int 0),CE.lit (V.int 0),CE.lit (V.int 0)]))) [CS.ret (CE.lit (V.bool false))] [],CS.for 3 SK.val [CE.slice (CE.p2 P2.index (CE.var 0) (CE.var 2)) (some (CE.lit (V.int 1))) none] [CS.ite (CE.p1 P1.not (CE.call 101 [CE.var 3])) [CS.ret (CE.lit (V.bool false))] []]],CS.ret (CE.lit (V.bool true))] }
noncomputable def zHG : Fn := { params := 2, slots := 4, body := [CS.for 2 SK.val [CE.list [CE.tup [CE.lit (V.str { cps := #[111,114,100,101,114] })],CE.tup [CE.lit (V.str { cps := #[111,114,100,101,114] }),CE.p1 P1.toList (CE.var 1),CE.lit (V.int 0)],CE.tup [CE.lit (V.str { cps := #[111,114,100,101,114] }),CE.p1 P1.toList (CE.var 1),CE.p1 P1.toList (CE.var 1)]]] [CS.asg 3 (CE.lit (V.bool false)),CS.try TK.exp (CE.callm 2 (CE.var 0) [CE.var 2]) [{ cls := Cls.NoDeed, as := none, tk := TK.asg 3, e := CE.lit (V.bool true) }],CS.ite (CE.p1 P1.not (CE.var 3)) [CS.ret (CE.lit (V.bool false))] []],CS.ret (CE.lit (V.bool true))] }
noncomputable def f05_113 : Fn := { params := 2, slots := 3, body := [CS.exp (CE.callm 9 (CE.var 0) []),CS.asg 2 (CE.call 108 [CE.var 0,CE.tup [CE.lit (V.str { cps := #[111,114,100,101,114] }),CE.p1 P1.toList (CE.var 1)]]),CS.ite (CE.or (CE.p2 P2.ne (CE.var 2) (CE.list [])) (CE.or (CE.p2 P2.ne (CE.callm 10 (CE.var 0) []) (CE.lit (V.int 40))) (CE.p1 P1.not (CE.call 111 [CE.callm 11 (CE.var 0) [CE.lit (V.int 39)],CE.var 1])))) [CS.ret (CE.lit (V.bool false))] [],CS.ret (CE.p2 P2.eq (CE.call 108 [CE.var 0,CE.tup [CE.lit (V.str { cps := #[111,114,100,101,114] }),CE.p1 P1.toList (CE.var 1)]]) (CE.lit (V.str { cps := #[70,117,108,108,66,111,111,107] })))] }
noncomputable def zBB : Fn := { params := 1, slots := 11, body := [CS.asg 1 (CE.p2 P2.mod (CE.call 100 [CE.var 0,CE.lit (V.int 0)]) (CE.lit (V.int 4))),CS.ite (CE.p2 P2.eq (CE.p2 P2.mod (CE.p2 P2.fdiv (CE.call 100 [CE.var 0,CE.lit (V.int 0)]) (CE.lit (V.int 4))) (CE.lit (V.int 4))) (CE.lit (V.int 1))) [CS.asg 1 (CE.p2 P2.index (CE.list [CE.lit (V.int 40),CE.lit (V.int 39),CE.lit (V.int 40),CE.lit (V.int 38)]) (CE.p2 P2.mod (CE.p2 P2.fdiv (CE.call 100 [CE.var 0,CE.lit (V.int 0)]) (CE.lit (V.int 16))) (CE.lit (V.int 4))))] [],CS.asg 2 CE.new, CS.for 3 SK.range1 [CE.var 1] [CS.exp (CE.callm 2 (CE.var 2) [CE.tup [CE.lit (V.str { cps := #[111,114,100,101,114] }),CE.list [CE.tup [CE.lit (V.str { cps := #[112,101,110] }),CE.p2 P2.add (CE.lit (V.int 1)) (CE.var 3),CE.lit (V.int 10),CE.lit (V.int 1)]]]])],CS.asg 4 (CE.call 105 [CE.var 0]),CS.ite (CE.p1 P1.not (CE.call 112 [CE.var 2,CE.var 4])) [CS.ret (CE.lit (V.bool false))] [],CS.asg 5 (CE.trk (CE.p1 P1.toList (CE.var 4))),CS.asg 6 (CE.call 108 [CE.var 2,CE.tup [CE.lit (V.str { cps := #[111,114,100,101,114] }),CE.var 5]]),CS.asg 7 (CE.call 107 [CE.var 4,CE.var 1]),CS.ite (CE.p2 P2.ne (CE.var 5) (CE.var 4)) [CS.ret (CE.lit (V.bool false))] [],CS.ite (CE.p2 P2.ne (CE.var 7) (CE.lit (V.str { cps := #[] }))) [CS.ite (CE.or (CE.p2 P2.ne (CE.var 6) (CE.var 7)) (CE.p1 P1.not (CE.call 110 [CE.var 2,CE.tup [CE.lit (V.str { cps := #[111,114,100,101,114] }),CE.var 5]]))) [CS.ret (CE.lit (V.bool false))] [],CS.ite (CE.and (CE.p2 P2.eq (CE.var 7) (CE.lit (V.str { cps := #[70,117,108,108,66,111,111,107] }))) (CE.p1 P1.not (CE.call 113 [CE.var 2,CE.var 4]))) [CS.ret (CE.lit (V.bool false))] [],CS.ret (CE.and (CE.call 101 [CE.callm 10 (CE.var 2) []]) (CE.p2 P2.eq (CE.callm 10 (CE.var 2) []) (CE.var 1)))] [],CS.ite (CE.or (CE.p2 P2.ne (CE.var 6) (CE.list [])) (CE.or (CE.p1 P1.not (CE.p1 (P1.isInst Kd.list) (CE.var 6))) (CE.p2 P2.ne (CE.callm 10 (CE.var 2) []) (CE.p2 P2.add (CE.var 1) (CE.lit (V.int 1)))))) [CS.ret (CE.lit (V.bool false))] [],CS.exp (CE.append (CE.var 5) (CE.tup [CE.lit (V.str { cps := #[99,117,112] }),CE.lit (V.int 1),CE.lit (V.int 1),CE.lit (V.int 1)])),CS.ite (CE.or (CE.p1 P1.not (CE.call 111 [CE.callm 11 (CE.var 2) [CE.var 1],CE.var 4])) (CE.or (CE.p2 P2.ne (CE.callm 13 (CE.var 2) [CE.var 1]) (CE.lit (V.int 0))) (CE.p2 P2.ne (CE.callm 12 (CE.var 2) [CE.var 1]) (CE.lit (V.int 0))))) [CS.ret (CE.lit (V.bool false))] [],CS.asg 8 (CE.p2 P2.sub (CE.p1 P1.len (CE.var 4)) (CE.lit (V.int 1))),CS.asg 9 (CE.p2 P2.fdiv (CE.p2 P2.mul (CE.p2 P2.index (CE.p2 P2.index (CE.var 4) (CE.var 8)) (CE.lit (V.int 1))) (CE.p2 P2.index (CE.p2 P2.index (CE.var 4) (CE.var 8)) (CE.lit (V.int 2)))) (CE.p2 P2.index (CE.p2 P2.index (CE.var 4) (CE.var 8)) (CE.lit (V.int 3)))),CS.asg 6 (CE.callm 2 (CE.var 2) [CE.tup [CE.lit (V.str { cps := #[100,101,108,105,118,101,114] }),CE.var 1,CE.var 8,CE.p2 P2.index (CE.p2 P2.index (CE.var 4) (CE.var 8)) (CE.lit (V.int 1))]]),CS.asg 10 (CE.p2 P2.index (CE.callm 11 (CE.var 2) [CE.var 1]) (CE.var 8)),CS.ret (CE.and (CE.p2 P2.eq (CE.var 6) (CE.list [CE.tup [CE.var 1,CE.var 9]])) (CE.and (CE.p2 P2.eq (CE.p2 P2.index (CE.var 10) (CE.lit (V.int 2))) (CE.p2 P2.index (CE.p2 P2.index (CE.var 4) (CE.var 8)) (CE.lit (V.int 1)))) (CE.p2 P2.eq (CE.callm 13 (CE.var 2) [CE.var 1]) (CE.var 9))))] }
noncomputable def tabM05 : List (Nat × Fn) := [(0, fB_0),(1, fB_1),(2, fB_2),(3, fB_3 false),(4, fB_4),(5, fB_5),(6, fB_6 false),(7, fB_7),(8, fB_8),(9, f05_9),(10, fB_10),(11, fB_11),(12, fB_12),(13, fB_13),(14, fB_14),(15, f05_15),(16, f05_16)]
noncomputable def tabF05 : List (Nat × Fn) := [(33, f05_33),(20, fB_20),(21, fB_21),(22, fB_22),(23, fB_23),(24, fB_24),(25, fB_25),(26, fB_26),(100, zHJ),(101, gWhole),(102, zAv),(103, f05_103),(104, zCw),(105, zBp),(106, zBo),(107, zBY),(108, zHI),(109, f05_109),(110, f05_110),(111, zHH),(112, zHG),(113, f05_113),(114, zBB)]
noncomputable def tab05 : List (Nat × Fn) := tabM05 ++ tabF05
noncomputable def T05 (n : Nat) : Option Fn := tab05.lookup n
end Mine
end

/-! # L05a -/
section
set_option autoImplicit false
namespace Mine
open PySem
noncomputable def leave (σ : Sto) : Cls ⊕ V → R Fl
  | .inl c => .exc c σ
  | .inr v => .ok (.ret v) σ
section
variable {F Fq : Calls} {σ : Sto} {i : Nat} {k : SK} {src : List CE} {body : List CS} {α : Type}
theorem first_at {it : Items} {f : V → List V → Sto → R Fl} {l : List α} {φ : α → V} (err : α → Option Cls) (g : Cls → Cls ⊕ V) (I : List V → Prop) (hG : Gives σ it (l.map φ))
    (hs : ∀ x ∈ l, ∀ ρ, I ρ → (∀ c, err x = some c → f (φ x) ρ σ = leave σ (g c)) ∧ (err x = none → ∃ ρ', f (φ x) ρ σ = .ok (.next ρ') σ ∧ I ρ')) :
    ∀ (m : List α) (j : Nat) (ρ : List V), l.drop j = m → I ρ → (∀ c, m.findSome? err = some c → forIt it f (m.length + 1) j ρ σ = leave σ (g c)) ∧ (m.findSome? err = none → ∃ ρ', forIt it f (m.length + 1) j ρ σ = .ok (.next ρ') σ ∧ I ρ')
  | [], j, ρ, hd, hI => by
    have hj : (l.map φ)[j]? = none := by
      rw [List.getElem?_map, ← Nat.add_zero j, ← List.getElem?_drop, hd]; rfl
    refine ⟨fun c h => (nomatch h), fun _ => ⟨ρ, ?_, hI⟩⟩
    show forIt it f (0 + 1) j ρ σ = _
    rw [zCv, hG.next, hj]
  | x :: m, j, ρ, hd, hI => by
    have hx : l[j]? = some x := by rw [← Nat.add_zero j, ← List.getElem?_drop, hd]; rfl
    have hj : (l.map φ)[j]? = some (φ x) := by rw [List.getElem?_map, hx]; rfl
    have hm : l.drop (j + 1) = m := by rw [← List.drop_drop, hd]; rfl
    obtain ⟨h1, h2⟩ := hs x (List.mem_of_getElem? hx) ρ hI
    have e : forIt it f ((x :: m).length + 1) j ρ σ = (f (φ x) ρ σ).bind fun fl σ => match fl with
        | .next ρ => forIt it f (m.length + 1) (j + 1) ρ σ
        | .ret v => .ok (.ret v) σ := by
      show forIt it f ((m.length + 1) + 1) j ρ σ = _
      rw [zCv, hG.next, hj] <;> rfl
    rw [e]
    cases hx' : err x with
    | some c =>
      rw [List.findSome?_cons, hx', h1 c hx']
      refine ⟨fun c' hc => ?_, fun h => (nomatch h)⟩
      cases hc
      cases g c <;> rfl
    | none =>
      rw [List.findSome?_cons, hx']
      obtain ⟨ρ', e', hI'⟩ := h2 hx'
      rw [e']
      exact first_at err g I hG hs m (j + 1) ρ' hm hI'
theorem zEd {it : Items} {ρ vs : List V} {l : List α} {φ : α → V} (err : α → Option Cls) (g : Cls → Cls ⊕ V) (I : List V → Prop)
    (hsrc : evL F false src ρ σ = .ok vs σ) (hit : itemsBy σ k vs = some it) (hG : Gives σ it (l.map φ)) (h0 : I ρ)
    (hs : ∀ x ∈ l, ∀ ρ, I ρ → (∀ c, err x = some c → exL F Fq false body (ρ.set i (φ x)) σ = leave σ (g c)) ∧ (err x = none → ∃ ρ', exL F Fq false body (ρ.set i (φ x)) σ = .ok (.next ρ') σ ∧ I ρ')) :
    (∀ c, l.findSome? err = some c → exS F Fq false (.for i k src body) ρ σ = leave σ (g c)) ∧ (l.findSome? err = none → ∃ ρ', exS F Fq false (.for i k src body) ρ σ = .ok (.next ρ') σ ∧ I ρ') := by
  have e : exS F Fq false (.for i k src body) ρ σ = forIt it (fun x ρ σ => exL F Fq false body (ρ.set i x) σ) (l.length + 1) 0 ρ σ := by
    show ((evL F false src ρ σ).bind fun vs σ => (R.lift σ (itemsBy σ k vs)).bind fun it σ => forItems it (fun x ρ σ => exL F Fq false body (ρ.set i x) σ) ρ σ) = _
    rw [hsrc, R.bind_ok, hit, R.lift_some, R.bind_ok]
    unfold forItems
    rw [hG.fuel, List.length_map]
  rw [e]
  exact first_at err g I hG hs l 0 ρ rfl h0
end
inductive LV (σ : Sto) (xs : List V) (e : Nat) : V → Prop
  | lst : LV σ xs e (.lst xs)
  | ref (n : Nat) (h : σ[n]? = some (.list xs)) (hn : n ≠ e) : LV σ xs e (.ref n)
section
variable {σ σ' : Sto} {xs : List V} {e : Nat} {v : V}
theorem LV.len (L : LV σ xs e v) : ev1 .len σ v = some (.int xs.length) := by
  cases L with
  | lst => rfl
  | ref n h hn => exact zAw σ h
theorem LV.list (L : LV σ xs e v) : ev1 .toList σ v = some (.lst xs) := by
  cases L with
  | lst => rfl
  | ref n h hn =>
    show ((match σ[n]? with | some (.list xs) => some xs | _ => none).map V.lst) = _
    rw [h]; rfl
theorem LV.items (L : LV σ xs e v) : ∃ it, itemsBy σ .val [v] = some it ∧ Gives σ it xs := by
  cases L with
  | lst => exact ⟨_, rfl, .inl rfl⟩
  | ref n h hn => exact ⟨_, zEX σ h, .inr ⟨n, rfl, h⟩⟩
theorem LV.set (L : LV σ xs e v) (x : O) : LV (σ.set e x) xs e v := by
  cases L with
  | lst => exact .lst
  | ref n h hn => exact .ref n (zAL h (Ne.symm hn)) hn
theorem LV.read (L : LV σ xs e v) {ρ : List V} {i : Nat} (h : ρ[i]? = some v) : readVar ρ i = some v := by
  unfold readVar
  rw [h]
  cases L <;> rfl
end
noncomputable def numsOk (l : Ln) : Bool := (decide (1 ≤ l.p) && decide (l.p ≤ 1000000)) && ((decide (0 ≤ l.c) && decide (l.c ≤ 1000000000)) && (decide (1 ≤ l.k) && decide (l.k ≤ 1000)))
noncomputable def lineErr (l : Ln) : Option Cls := if itemOk l.item = true then (if numsOk l = true then none else some .NoNumber) else some .NoItem
noncomputable def lenOk (ls : List Ln) : Bool := decide (1 ≤ ls.length) && decide (ls.length ≤ 20)
noncomputable def linesErr (ls : List Ln) : Option Cls := if lenOk ls = true then ls.findSome? lineErr else some .NoLines
noncomputable def asc (l : Ln) : Prop := l.item.cps.all (· < 128) = true
theorem numsOk_ok {l : Ln} (h : numsOk l = true) : l.ok := by
  unfold numsOk at h
  simp only [Bool.and_eq_true, decide_eq_true_eq] at h
  exact ⟨h.1.1, h.1.2, h.2.1.1, h.2.1.2, h.2.2.1, h.2.2.2⟩
theorem zGS {l : Ln} (h : lineErr l = none) : itemOk l.item = true ∧ numsOk l = true := by
  unfold lineErr at h
  split at h
  · rename_i h1
    split at h
    · rename_i h2; exact ⟨h1, h2⟩
    · cases h
  · cases h
theorem zBG {ls : List Ln} (h : linesErr ls = none) : 1 ≤ ls.length ∧ ls.length ≤ 20 ∧ ∀ l ∈ ls, l.ok := by
  unfold linesErr at h
  split at h
  · rename_i h1
    unfold lenOk at h1
    rw [Bool.and_eq_true, decide_eq_true_eq, decide_eq_true_eq] at h1
    refine ⟨h1.1, h1.2, fun l hl => numsOk_ok (zGS (List.findSome?_eq_none_iff.mp h l hl)).2⟩
  · cases h
section
variable {T : Nat → Option Fn} {t : Bool} {F Fq : Calls} {d : Nat} {q : Bool} {σ : Sto} {b e h : Nat} {es hs : List V} {ρ : List V}
theorem zCy (n m : Nat) : decide ((n : Int) ≤ (m : Int)) = decide (n ≤ m) := decide_eq_decide.mpr Int.ofNat_le
theorem b_itemF (h21 : T 21 = some fB_21) {s : Str} (h2 : s.cps.all (· < 128) = true) : callFn T (d + 1) false 21 [.str s] σ = .ok (.bool (itemOk s)) σ := by
  have eb : evE (callFn T d false) false (.chain (.lit (.int 1)) [.le, .le] [.p1 .len (.var 0), .lit (.int 12)]) [.str s] σ = .ok (.bool (decide (1 ≤ s.length) && decide (s.length ≤ 12))) σ := by
    rw [zAx (lo := (1 : Nat)) (x := (s.length : Int)) (hi := (12 : Nat)) rfl rfl rfl, zCy, zCy]
  by_cases hb : (decide (1 ≤ s.length) && decide (s.length ≤ 12)) = true
  · have hl : s.length ≤ 12 := by rw [Bool.and_eq_true, decide_eq_true_eq, decide_eq_true_eq] at hb; exact hb.2
    refine zAH h21 rfl (s_f (zAC (zAh rfl rfl (e_p1 eb (by rw [hb]; rfl)))) (s_ret ?_))
    have ec := zBf (F := callFn T d false) (elt := .p2 .isIn (.var 1) (.lit (.str letters))) (k := .val) (src := [.var 0]) (cond := none) (ρ := [.str s]) (σ := σ) (l := codes s) (φ := fun c => .str (mkS [c])) (fun _ => true) (fun c => .bool (letterOk c))
      rfl (show itemsBy σ .val [.str s] = some (.now (charsOf s)) by show (if s.cps.all (· < 128) = true then some (Items.now (charsOf s)) else none) = _; rw [if_pos h2]) (.inl rfl)
      (by show (codes s).length < LIM; rw [show (codes s).length = s.length from rfl]; exact Nat.lt_of_le_of_lt hl (by decide)) (fun _ _ => rfl) (fun c _ _ => rfl)
    rw [zBD] at ec
    refine e_p1 ec ?_
    show ((bools? ((codes s).map fun c => V.bool (letterOk c))).map fun l => V.bool (l.all id)) = _
    rw [zEi, show (some ((codes s).map letterOk)).map (fun l => V.bool (l.all id)) = some (V.bool (((codes s).map letterOk).all id)) from rfl, List.all_map]
    unfold itemOk
    rw [hb]; rfl
  · have hb : (decide (1 ≤ s.length) && decide (s.length ≤ 12)) = false := Bool.eq_false_iff.mpr hb
    have : itemOk s = false := by unfold itemOk; rw [hb]; rfl
    rw [this]
    exact zAH h21 rfl (s_t (zAC (zAh rfl rfl (e_p1 eb (by rw [hb]; rfl)))) (s_ret rfl))
theorem b_itemG (HT : BookTab T t) {s : Str} (h2 : s.cps.all (· < 128) = true) : callFn T (d + 1) false 21 [.str s] σ = .ok (.bool (itemOk s)) σ := b_itemF HT.b21 h2
noncomputable def body22 : List CS := match fB_22.body with
  | [_, .for _ _ _ b] => b
  | _ => []
theorem turn22 (HT : BookTab T t) {l : Ln} (ha : asc l) (v y : V) : (∀ c, lineErr l = some c → exL (callFn T (d + 1) false) Fq false body22 ([v, y].set 1 l.raw) σ = leave σ (.inl c)) ∧
    (lineErr l = none → ∃ ρ', exL (callFn T (d + 1) false) Fq false body22 ([v, y].set 1 l.raw) σ = .ok (.next ρ') σ ∧ ∃ x, ρ' = [v, x]) := by
  have e1 : evE (callFn T (d + 1) false) false (.p1 .not (.call 21 [.p2 .index (.var 1) (.lit (.int 0))])) [v, l.raw] σ = .ok (.bool !itemOk l.item) σ := e_p1 (zAI rfl (b_itemG HT ha)) rfl
  have e2 : evE (callFn T (d + 1) false) false (.or (.p1 .not (.chain (.lit (.int 1)) [.le, .le] [.p2 .index (.var 1) (.lit (.int 1)), .lit (.int 1000000)]))
      (.or (.p1 .not (.chain (.lit (.int 0)) [.le, .le] [.p2 .index (.var 1) (.lit (.int 2)), .lit (.int 1000000000)])) (.p1 .not (.chain (.lit (.int 1)) [.le, .le] [.p2 .index (.var 1) (.lit (.int 3)), .lit (.int 1000)])))) [v, l.raw] σ = .ok (.bool !numsOk l) σ := by
    rw [e_or (e_p1 (zAx (lo := 1) (x := l.p) (hi := 1000000) rfl rfl rfl) rfl) (e_or (e_p1 (zAx (lo := 0) (x := l.c) (hi := 1000000000) rfl rfl rfl) rfl) (e_p1 (zAx (lo := 1) (x := l.k) (hi := 1000) rfl rfl rfl) rfl))]
    unfold numsOk
    rw [← Bool.not_and, ← Bool.not_and]
  unfold lineErr
  show (∀ c, _ → exL (callFn T (d + 1) false) Fq false body22 [v, l.raw] σ = _) ∧ (_ → ∃ ρ', exL (callFn T (d + 1) false) Fq false body22 [v, l.raw] σ = _ ∧ _)
  by_cases hi : itemOk l.item = true
  · rw [if_pos hi]
    by_cases hn : numsOk l = true
    · rw [if_pos hn]
      exact ⟨fun c h => (nomatch h), fun _ => ⟨[v, l.raw], s_f (zAC (by rw [hi] at e1; exact e1)) (s_f (zAC (by rw [hn] at e2; exact e2)) rfl), _, rfl⟩⟩
    · rw [if_neg hn]
      refine ⟨fun c h => ?_, fun h => (nomatch h)⟩
      cases h
      exact s_f (zAC (by rw [hi] at e1; exact e1)) (s_t (zAC (by rw [Bool.eq_false_iff.mpr hn] at e2; exact e2)) rfl)
  · rw [if_neg hi]
    refine ⟨fun c h => ?_, fun h => (nomatch h)⟩
    cases h
    exact s_t (zAC (by rw [Bool.eq_false_iff.mpr hi] at e1; exact e1)) rfl
theorem b_checkG (HT : BookTab T t) {ls : List Ln} {v : V} (L : LV σ (ls.map Ln.raw) e v) (ha : ∀ l ∈ ls, asc l) : callFn T (d + 2) false 22 [v] σ = checked σ (linesErr ls) := by
  have hv : readVar [v, .undef] 0 = some v := L.read rfl
  have ev : ∀ {F : Calls}, evE F false (.var 0) [v, .undef] σ = .ok v σ := by intro F; rw [x_var, hv]; rfl
  have eb : evE (callFn T (d + 1) false) false (.p1 .not (.chain (.lit (.int 1)) [.le, .le] [.p1 .len (.var 0), .lit (.int 20)])) [v, .undef] σ = .ok (.bool !lenOk ls) σ := by
    refine e_p1 (zAx (lo := (1 : Nat)) (x := (ls.length : Int)) (hi := (20 : Nat)) rfl (e_p1 ev (by rw [L.len, List.length_map])) rfl) ?_
    rw [zCy, zCy]; rfl
  unfold linesErr
  by_cases hl : lenOk ls = true
  · rw [if_pos hl]
    obtain ⟨it, hit, hG⟩ := L.items
    obtain ⟨h1, h2⟩ := zEd (F := callFn T (d + 1) false) (Fq := callFn T (d + 1) true) (i := 1) (k := .val) (src := [.var 0]) (body := body22) (ρ := [v, .undef]) (σ := σ) (l := ls) (φ := Ln.raw) lineErr .inl (fun ρ => ∃ x, ρ = [v, x]) (zAB ev rfl) hit hG ⟨_, rfl⟩
      fun l hm ρ hI => by obtain ⟨y, rfl⟩ := hI; exact turn22 HT (ha l hm) v y
    have pre : ∀ {r : R Fl}, (exS (callFn T (d + 1) false) (callFn T (d + 1) true) false (.for 1 .val [.var 0] body22) [v, .undef] σ).bind (thenL (callFn T (d + 1) false) (callFn T (d + 1) true) false []) = r → exL (callFn T (d + 1) false) (callFn T (d + 1) true) false fB_22.body ([v] ++ List.replicate (fB_22.slots - fB_22.params) .undef) σ = r := fun k =>
      s_f (zAC (by rw [hl] at eb; exact eb)) (by rw [List.nil_append, zAg]; exact k)
    cases hf : ls.findSome? lineErr with
    | some c => exact zAk HT.b22 rfl (pre (by rw [h1 c hf]; rfl))
    | none => obtain ⟨ρ', e', -⟩ := h2 hf; exact zBd (ρ := ρ') HT.b22 rfl (pre (by rw [e']; rfl))
  · rw [if_neg hl]
    exact zAk HT.b22 rfl (s_t (zAC (by rw [Bool.eq_false_iff.mpr hl] at eb; exact eb)) rfl)
noncomputable def orderErr (ls : List Ln) (n : Nat) : Option Cls := match linesErr ls with
  | some c => some c
  | none => if 40 ≤ n then some .FullBook else none
noncomputable def ordered (σ : Sto) (e h : Nat) (es hs : List V) (ls : List Ln) : Sto := noted (σ.set e (.list (es ++ [(newOr ls).v]))) h hs (dO ls) []
theorem b_beginX (HT : BookTab T t) (B : BookIn σ b e h es hs) {ls : List Ln} {v : V} {c : Cls} (L : LV σ (ls.map Ln.raw) e v) (ha : ∀ l ∈ ls, asc l) (hc : orderErr ls es.length = some c) : callFn T (d + 3) false 3 [.ref b, v] σ = .exc c σ := by
  have hv : readVar [.ref b, v] 1 = some v := L.read rfl
  have ev : ∀ {F : Calls}, evE F false (.var 1) [.ref b, v] σ = .ok v σ := by intro F; rw [x_var, hv]; rfl
  have ck := b_checkG (d := d) HT L ha
  unfold orderErr at hc
  refine zAk HT.b3 rfl ?_
  cases hl : linesErr ls with
  | some c' =>
    rw [hl] at hc ck; cases hc
    exact s_expX (zAI (zAB ev rfl) ck)
  | none =>
    rw [hl] at hc ck
    have hc : (if 40 ≤ es.length then some Cls.FullBook else none) = some c := hc
    by_cases h4 : 40 ≤ es.length
    · rw [if_pos h4] at hc; cases hc
      exact s_exp (zAI (zAB ev rfl) ck) (s_t (zAC (t := true) (e_p2 (zEv B rfl) rfl (by rw [ev2_ge]; exact congrArg (fun b => some (V.bool b)) (decide_eq_true (Int.ofNat_le.mpr h4))))) rfl)
    · rw [if_neg h4] at hc; cases hc
theorem b_beginG (HT : BookTab T) (B : BookIn σ b e h es hs) {ls : List Ln} {v : V} (L : LV σ (ls.map Ln.raw) e v) (ha : ∀ l ∈ ls, asc l) (hc : orderErr ls es.length = none) (hh : hs.length < LIM) : callFn T (d + 3) false 3 [.ref b, v] σ = .ok (.lst []) (ordered σ e h es hs ls) := by
  have hv : readVar [.ref b, v] 1 = some v := L.read rfl
  have ev : ∀ {F : Calls} {σ : Sto}, evE F false (.var 1) [.ref b, v] σ = .ok v σ := by intro F σ; rw [x_var, hv]; rfl
  have ck := b_checkG (d := d) HT L ha
  unfold orderErr at hc
  cases hl : linesErr ls with
  | some c' => rw [hl] at hc; cases hc
  | none =>
  rw [hl] at hc ck
  have hc : (if 40 ≤ es.length then some Cls.FullBook else none) = none := hc
  by_cases h4 : 40 ≤ es.length
  · rw [if_pos h4] at hc; cases hc
  obtain ⟨-, h20, -⟩ := zBG hl
  have B1 := B.setE (es ++ [(newOr ls).v])
  have L1 := L.set (.list (es ++ [(newOr ls).v]))
  have he : es.length < 40 := Nat.lt_of_not_le h4
  refine zAH HT.b3 rfl (s_exp (zAI (zAB ev rfl) ck) ?_)
  refine s_f (zAC (t := false) (e_p2 (zEv B rfl) rfl (by rw [ev2_ge]; exact congrArg (fun b => some (V.bool b)) (decide_eq_false fun h => h4 (Int.ofNat_le.mp h))))) ?_
  obtain ⟨it, hit, hG⟩ := L.items
  have ec := zBf (F := callFn T (d + 2) false) (elt := .call 23 [.var 2]) (k := .val) (src := [.var 1]) (cond := none) (ρ := [.ref b, v]) (σ := σ) (l := ls) (φ := Ln.raw) (fun _ => true) (fun l => l.fresh.v) (zAB ev rfl) hit hG (Nat.lt_of_le_of_lt h20 (by decide)) (fun _ _ => rfl) (fun l _ _ => zAI rfl (b_begun HT))
  rw [zBD, show ls.map (fun l => l.fresh.v) = (ls.map Ln.fresh).map Ln.v by rw [List.map_map]; rfl] at ec
  refine s_exp (σ' := σ.set e (.list (es ++ [(newOr ls).v]))) (zAp (e_ent B rfl) (by show (listR _).isSome = true; rw [B.ent]; rfl) (e_tup (zAB (e_p1 (z := .tup ((ls.map Ln.fresh).map Ln.v)) ec rfl) rfl)) (zAi _ B.ent (Nat.lt_trans he (by decide)))) ?_
  exact s_exp (zAp (e_his B1 rfl) (by show (listR _).isSome = true; rw [B1.his]; rfl) (e_tup (zAB (v := dO ls) (e_tup (zAB rfl (zAB (e_p1 ev L1.list) rfl))) (zAB rfl rfl))) (zAi _ (B1.push _).his hh)) (s_ret rfl)
noncomputable def dV (v : V) : V := .tup [.str sOrd, v]
theorem b_doVX (HT : BookTab T t) (B : BookIn σ b e h es hs) {ls : List Ln} {v : V} {c : Cls} (L : LV σ (ls.map Ln.raw) e v) (ha : ∀ l ∈ ls, asc l) (hc : orderErr ls es.length = some c) : callFn T (d + 4) false 2 [.ref b, dV v] σ = .exc c σ :=
  zAk HT.b2 rfl (s_f rfl (s_t rfl (s_retX (zAM rfl B.isInst rfl (b_beginX HT B L ha hc)))))
theorem b_doV (HT : BookTab T) (B : BookIn σ b e h es hs) {ls : List Ln} {v : V} (L : LV σ (ls.map Ln.raw) e v) (ha : ∀ l ∈ ls, asc l) (hc : orderErr ls es.length = none) (hh : hs.length < LIM) : callFn T (d + 4) false 2 [.ref b, dV v] σ = .ok (.lst []) (ordered σ e h es hs ls) :=
  zAH HT.b2 rfl (s_f rfl (s_t rfl (s_ret (zAM rfl B.isInst rfl (b_beginG HT B L ha hc hh)))))
theorem b_doN {vs : List V} (HT : BookTab T t) (hn : vs.length ≠ 1) : callFn T (d + 1) false 2 [.ref b, .tup (.str sOrd :: vs)] σ = .exc .NoDeed σ := by
  refine zAk HT.b2 rfl (s_t (zAC (zAh (x := .bool false) (e_p2 rfl rfl ?_) rfl (zAh (x := .bool false) rfl rfl (e_p2 (y := .int 2) (z := .bool true) rfl rfl ?_)))) rfl)
  · show some (V.bool (((vs.length + 1 : Nat) : Int) == 0)) = _
    rw [beq_eq_false_iff_ne.mpr (by omega)]
  · show some (V.bool !(((vs.length + 1 : Nat) : Int) == 2)) = _
    rw [beq_eq_false_iff_ne.mpr (by omega)]; rfl
end
end Mine
end

/-! # L05b -/
section
set_option autoImplicit false
namespace Mine
open PySem
noncomputable def A7 (s : Str) : Prop := ∀ c ∈ s.cps.toList, c < 128
theorem A7.all {s : Str} (h : A7 s) : s.cps.all (· < 128) = true := by
  rw [← Array.all_toList, List.all_eq_true]
  exact fun c hc => decide_eq_true (h c hc)
theorem A7.ok {s : Str} (h : A7 s) : PyData.strOk s = true := by
  show s.cps.all (· < 0x110000) = true
  rw [← Array.all_toList, List.all_eq_true]
  exact fun c hc => decide_eq_true (Nat.lt_trans (h c hc) (by decide))
theorem A7.add {x y : Str} (hx : A7 x) (hy : A7 y) : A7 (x ++ y) := fun c hc => by
  have hc : c ∈ (x.cps ++ y.cps).toList := hc
  rw [Array.toList_append, List.mem_append] at hc
  exact hc.elim (hx c) (hy c)
theorem A7.slice {x : Str} (hx : A7 x) (l u : Option Int) : A7 (Txt.slice x l u) := by
  unfold Txt.slice
  split
  · exact hx
  · intro c hc
    obtain ⟨i, _, h⟩ := List.mem_filterMap.mp hc
    exact hx c (Array.mem_toList_iff.mpr (Array.mem_of_getElem? h))
theorem len_add (x y : Str) : (x ++ y).length = x.length + y.length := Array.size_append
theorem A7.mk {cs : List Nat} (h : ∀ c ∈ cs, c < 128) : A7 (mkS cs) := h
section
variable {σ : Sto} {F : Calls} {q : Bool} {ρ : List V} {a b : CE}
theorem e_cat {x y : Str} (ha : evE F q a ρ σ = .ok (.str x) σ) (hb : evE F q b ρ σ = .ok (.str y) σ) (h : x.length + y.length ≤ 10000) : evE F q (.p2 .add a b) ρ σ = .ok (.str (x ++ y)) σ :=
  e_p2 ha hb (by show (if x.length + y.length ≤ 10000 then some (V.str (x ++ y)) else none) = _; rw [if_pos h])
theorem e_sm {o : P2} {x y z : V} (ha : evE F q a ρ σ = .ok x σ) (hs : selfOk o σ x = true) (hb : evE F q b ρ σ = .ok y σ) (h : ev2 o σ x y = some z) : evE F q (.sm o a b) ρ σ = .ok z σ := by
  rw [x_sm, ha, R.bind_ok, if_pos hs, hb, R.bind_ok, h]; rfl
theorem st_nx {F Fq : Calls} {ρ ρ₁ : List V} {σ σ₁ : Sto} {s : CS} {rest : List CS} {r : R Fl} (h : exS F Fq false s ρ σ = .ok (.next ρ₁) σ₁) (k : exL F Fq false rest ρ₁ σ₁ = r) : exL F Fq false (s :: rest) ρ σ = r := by
  rw [zAg, h]; exact k
theorem e_cut {x : Str} {lo hi : Option CE} {i j : Option Int} (hx : A7 x) (ha : evE F q a ρ σ = .ok (.str x) σ) (hl : evO F q lo ρ σ = .ok i σ) (hh : evO F q hi ρ σ = .ok j σ) : evE F q (.slice a lo hi) ρ σ = .ok (.str (Txt.slice x i j)) σ :=
  zFO ha hl hh (by show (if PyData.strOk (Txt.slice x i j) = true then some (V.str (Txt.slice x i j)) else none) = _; rw [if_pos (hx.slice i j).ok])
end
noncomputable def others : Str := { cps := #[32, 65, 90, 48, 57, 95, 45, 46, 44, 123, 96, 64, 91, 126, 122, 10] }
noncomputable def otherAt (j : Nat) : Nat := (codes others).getD j 97
theorem otherAt_ok {j : Nat} (h : j < 16) : otherAt j < 128 := by
  have : ∀ j : Fin 16, otherAt j < 128 := by decide
  exact this ⟨j, h⟩
theorem other_at {σ : Sto} {j : Nat} (h : j < 16) : ev2 .index σ (.str others) (.int (j : Int)) = some (.str (mkS [otherAt j])) := by
  show ((normIndex 16 (j : Int)).bind fun k => (codes others)[k]?.map fun c => V.str (mkS [c])) = _
  rw [zAm h]
  show ((codes others)[j]?.map fun c => V.str (mkS [c])) = _
  have : j < (codes others).length := h
  rw [List.getElem?_eq_getElem this]
  unfold otherAt
  rw [List.getD_eq_getElem?_getD, List.getElem?_eq_getElem this]; rfl
theorem bookTab05 : BookTab T05 := ⟨rfl, rfl, rfl, rfl, rfl, rfl, rfl, rfl, rfl, rfl, rfl, rfl, rfl, rfl, rfl, rfl, rfl, rfl, rfl, rfl⟩
section
variable {d : Nat} {q : Bool} {σ : Sto}
theorem zBk (l : List Int) (k : Nat) : callFn T05 (d + 1) q 100 [.lst (iv l), .int k] σ = .ok (.int (gI l k)) σ := by
  by_cases h : k < l.length
  · exact zAH (fn := zHJ) rfl rfl (s_t (zAC (t := true) (e_p2 rfl (e_p1 rfl (zBr σ (iv l))) (by rw [ev2_lt, iv_len, decide_eq_true (Int.ofNat_lt.mpr h)]))) (s_ret (e_p2 rfl rfl (index_lst σ h))))
  · have hg : gI l k = 0 := by simp [gI, List.getElem?_eq_none (Nat.le_of_not_lt h)]
    rw [hg]
    exact zAH (fn := zHJ) rfl rfl (s_f (zAC (t := false) (e_p2 rfl (e_p1 rfl (zBr σ (iv l))) (by rw [ev2_lt, iv_len, decide_eq_false fun h' => h (Int.ofNat_lt.mp h')]))) (s_ret rfl))
noncomputable def ix5 (c : Int) (k : Nat) : Nat := ((c + c.fdiv 26 * (k : Int) + 3 * (k : Int)).fmod 26).toNat
theorem ix5_lt (c : Int) (k : Nat) : ix5 c k < 26 := by
  obtain ⟨h1, h2⟩ := zHF (c + c.fdiv 26 * (k : Int) + 3 * (k : Int)) (m := 26) (by decide)
  exact (Int.toNat_lt h1).mpr h2
theorem zFc {j : Nat} (h : j < 1000) : smallFactor (j : Int) = true := decide_eq_true (Nat.lt_trans h (by decide))
theorem d_base (c f : Int) : ∃ cs : List Nat, 1 ≤ cs.length ∧ cs.length ≤ 12 ∧ (∀ x ∈ cs, x < 128) ∧ ∀ {r : R Fl}, exL (callFn T05 d false) (callFn T05 d true) false (zAv.body.drop 2) [.int c, .int f, .str letters, .str (mkS cs), .undef, .undef] σ = r → exL (callFn T05 d false) (callFn T05 d true) false zAv.body [.int c, .int f, .undef, .undef, .undef, .undef] σ = r := by
  obtain ⟨n, hn, h1, h2⟩ := one_fmod (c.fdiv 7) (m := 12) (by decide)
  have hn : 1 + (c.fdiv 7).fmod 12 = (n : Int) := hn
  have hlen : ((List.range n).map fun j => letterAt (ix5 c j)).length = n := by rw [List.length_map, List.length_range]
  refine ⟨(List.range n).map fun j => letterAt (ix5 c j), hlen.symm ▸ h1, hlen.symm ▸ h2, fun x hx => ?_, fun kk => s_asg (v := .str letters) rfl (s_asg ?_ kk)⟩
  · obtain ⟨j, _, rfl⟩ := List.mem_map.mp hx
    exact (zGu (ix5_lt c j)).2
  have e := zBf (F := callFn T05 d false) (elt := .p2 .index (.var 2) (.p2 .mod (.p2 .add (.p2 .add (.var 0) (.p2 .mul (.p2 .fdiv (.var 0) (.lit (.int 26))) (.var 6))) (.p2 .mul (.lit (.int 3)) (.var 6))) (.lit (.int 26)))) (k := .range1)
    (src := [.p2 .add (.lit (.int 1)) (.p2 .mod (.p2 .fdiv (.var 0) (.lit (.int 7))) (.lit (.int 12)))]) (cond := none) (ρ := [.int c, .int f, .str letters, .undef, .undef, .undef]) (vs := [.int n]) (σ := σ) (σ₁ := σ) (it := .now (rangeL 0 n)) (l := List.range n) (φ := fun j : Nat => .int (0 + (j : Int))) (fun _ => true) (fun j => .str (mkS [letterAt (ix5 c j)]))
    (zAB (by rw [e_p2 rfl (e_p2 (e_p2 rfl rfl (zAe σ c 7 rfl)) rfl (zAW σ _ 12 rfl)) rfl, hn]) rfl) (zAj σ (by show n ≤ LIM; exact Nat.le_trans h2 (by decide)))
    (.inl (by unfold rangeL; rw [Int.sub_zero, Int.toNat_natCast])) (by rw [List.length_range]; exact Nat.lt_of_le_of_lt h2 (by decide)) (fun _ _ => rfl) fun j hj _ => by
      rw [Int.zero_add]
      have hj : j < 1000 := Nat.lt_of_lt_of_le (List.mem_range.mp hj) (Nat.le_trans h2 (by decide))
      refine e_p2 rfl (e_p2 (e_p2 (e_p2 rfl (e_p2 (e_p2 rfl rfl (zAe σ c 26 rfl)) rfl (zBq σ _ j (.inr (zFc hj)))) rfl) (e_p2 rfl rfl (zBq σ 3 j (.inl rfl))) rfl) rfl (zAW σ _ 26 rfl)) ?_
      have hx : (c + c.fdiv 26 * (j : Int) + 3 * (j : Int)).fmod 26 = (ix5 c j : Int) := (Int.toNat_of_nonneg (zHF _ (by decide)).1).symm
      rw [hx]
      exact letter_at (ix5_lt c j)
  rw [zBD, show (List.range n).map (fun j => V.str (mkS [letterAt (ix5 c j)])) = ((List.range n).map fun j => letterAt (ix5 c j)).map fun x => V.str (mkS [x]) by rw [List.map_map]; rfl] at e
  exact e_sm (x := .str (mkS [])) rfl rfl e (join_at (by rw [hlen]; exact Nat.le_trans h2 (by decide)))
theorem d_item (c f : Int) : ∃ s : Str, A7 s ∧ callFn T05 (d + 1) false 102 [.int c, .int f] σ = .ok (.str s) σ := by
  obtain ⟨cs, h1, h2, h3, pre⟩ := d_base (d := d) (σ := σ) c f
  have hA : A7 (mkS cs) := h3
  have hl : (mkS cs).length = cs.length := rfl
  cases e1 : (f == 1) with
  | true => exact ⟨{ cps := #[] }, (by intro c hc; cases hc), zAH (fn := zAv) rfl rfl (pre (s_t (zAC (t := true) (e_p2 rfl rfl (by rw [zBO, e1]))) (s_ret (v := .str { cps := #[] }) rfl)))⟩
  | false =>
  have p1 : ∀ {r : R Fl}, exL (callFn T05 d false) (callFn T05 d true) false (zAv.body.drop 3) [.int c, .int f, .str letters, .str (mkS cs), .undef, .undef] σ = r → exL (callFn T05 d false) (callFn T05 d true) false zAv.body [.int c, .int f, .undef, .undef, .undef, .undef] σ = r := fun kk =>
    pre (s_f (zAC (t := false) (e_p2 rfl rfl (by rw [zBO, e1]))) kk)
  cases e2 : (f == 2) with
  | true =>
    have hB : A7 { cps := #[97, 98, 99, 100, 101, 102, 103, 104, 105, 106, 107, 108, 109] } := by unfold A7; decide
    refine ⟨_, (hA.add hB).slice none (some (13 + c.fmod 3)), zAH (fn := zAv) rfl rfl (p1 (s_t (zAC (t := true) (e_p2 rfl rfl (by rw [zBO, e2]))) (s_ret ?_)))⟩
    refine e_cut (hA.add hB) (e_cat rfl rfl (by rw [hl]; show cs.length + 13 ≤ 10000; omega)) rfl ?_
    rw [zFC, e_p2 (z := .int (13 + c.fmod 3)) rfl (e_p2 rfl rfl (zAW σ c 3 rfl)) rfl]; rfl
  | false =>
  have p2 : ∀ {r : R Fl}, exL (callFn T05 d false) (callFn T05 d true) false (zAv.body.drop 4) [.int c, .int f, .str letters, .str (mkS cs), .undef, .undef] σ = r → exL (callFn T05 d false) (callFn T05 d true) false zAv.body [.int c, .int f, .undef, .undef, .undef, .undef] σ = r := fun kk =>
    p1 (s_f (zAC (t := false) (e_p2 rfl rfl (by rw [zBO, e2]))) kk)
  cases e3 : (f == 3) with
  | false => exact ⟨_, hA, zAH (fn := zAv) rfl rfl (p2 (s_f (zAC (t := false) (e_p2 rfl rfl (by rw [zBO, e3]))) (s_ret rfl)))⟩
  | true =>
    obtain ⟨j, hj, hj2⟩ := zBL c (m := 16) (by decide)
    have hj : c.fmod 16 = (j : Int) := hj
    have o1 := other_at (σ := σ) hj2
    have o2 := otherAt_ok hj2
    have hO : A7 (mkS [otherAt j]) := fun x hx => by rw [List.mem_singleton.mp hx]; exact o2
    generalize ha : (c.fdiv 3).fmod (cs.length : Int) = at'
    have s1 := Txt.slice_le (mkS cs) none (some at')
    have s2 := Txt.slice_le (mkS cs) (some (at' + 1)) none
    rw [hl] at s1 s2
    refine ⟨_, ((hA.slice none (some at')).add hO).add (hA.slice (some (at' + 1)) none), zAH (fn := zAv) rfl rfl (p2 (s_t (zAC (t := true) (e_p2 rfl rfl (by rw [zBO, e3]))) (s_asg (v := .str others) rfl (s_asg (v := .int at') (σ' := σ) ?_ (s_ret ?_)))))⟩
    · rw [← ha]
      exact e_p2 (e_p2 rfl rfl (zAe σ c 3 rfl)) (e_p1 rfl (zHM σ (mkS cs))) (zAW σ _ _ (by rw [beq_eq_false_iff_ne, hl]; omega))
    · refine e_cat (e_cat (e_cut hA rfl rfl rfl) (e_p2 rfl (e_p2 (z := .int (j : Int)) rfl rfl (by rw [← hj]; exact zAW σ c 16 rfl)) o1) ?_) (e_cut hA rfl rfl rfl) ?_
      · show _ + 1 ≤ _; omega
      · rw [len_add]
        show _ + 1 + _ ≤ _; omega
theorem d_number (c w lo hi : Int) (hm : (hi - lo + 1 == 0) = false) : ∃ n : Int, callFn T05 (d + 1) q 103 [.int c, .int w, .int lo, .int hi] σ = .ok (.int n) σ :=
  gr_call (fn := f05_103) rfl rfl (gr_if (t := w == 1) (zAC rfl) (fun _ => ⟨_, rfl⟩) fun _ => gr_if (t := w == 2) (zAC rfl) (fun _ => ⟨_, rfl⟩) fun _ => gr_asg (v := .int (c.fmod 5)) rfl
    (gr_if (t := c.fmod 5 == 0) (zAC rfl) (fun _ => ⟨_, rfl⟩) fun _ => gr_if (t := c.fmod 5 == 1) (zAC rfl) (fun _ => ⟨_, rfl⟩) fun _ =>
      gr_ret ⟨_, e_p2 rfl (e_p2 (e_p2 rfl rfl (zAe σ c 5 rfl)) rfl (zAW σ _ _ hm)) rfl⟩))
end
end Mine
end

/-! # L05c -/
section
set_option autoImplicit false
namespace Mine
open PySem
section
variable {d : Nat} {q : Bool} {σ : Sto}
noncomputable def body104 : List CS := match zCw.body with
  | [_, _, _, .for _ _ _ b, _] => b
  | _ => []
inductive Nums (σ : Sto) (c f m : Int) (j : Nat) : List V → Sto → Prop
  | mk (ns : List Int) (x4 x5 : V) (hl : ns.length = j) : Nums σ c f m j [.int c, .int f, .int m, .ref σ.length, x4, x5] (σ ++ [.list (iv ns)])
theorem iv_add (ns : List Int) (n : Int) : iv ns ++ [.int n] = iv (ns ++ [n]) := by unfold iv; rw [List.map_append]; rfl
theorem bounds5 {F : Calls} {σ : Sto} {c f m : Int} {v w : V} {j : Nat} (hj : j < 3) : ∃ lo hi : Int, (hi - lo + 1 == 0) = false ∧
    evE F false (.p2 .index (.list [.lit (.int 1), .lit (.int 0), .lit (.int 1)]) (.var 4)) [.int c, .int f, .int m, v, .int j, w] σ = .ok (.int lo) σ ∧
    evE F false (.p2 .index (.list [.lit (.int 1000000), .lit (.int 1000000000), .lit (.int 1000)]) (.var 4)) [.int c, .int f, .int m, v, .int j, w] σ = .ok (.int hi) σ := by
  match j, hj with
  | 0, _ => exact ⟨1, 1000000, rfl, rfl, rfl⟩
  | 1, _ => exact ⟨0, 1000000000, rfl, rfl, rfl⟩
  | 2, _ => exact ⟨1, 1000, rfl, rfl, rfl⟩
theorem nums_turn {c f m : Int} {j : Nat} {ρ : List V} {σ' : Sto} (hj : j < 3) (I : Nums σ c f m j ρ σ') :
    ∃ ρ' σ'', exL (callFn T05 (d + 1) false) (callFn T05 (d + 1) true) false body104 (ρ.set 4 (.int j)) σ' = .ok (.next ρ') σ'' ∧ Nums σ c f m (j + 1) ρ' σ'' := by
  cases I with
  | mk ns x4 x5 hl =>
  have hlim : (iv ns).length < LIM := by rw [iv_len, hl]; exact Nat.lt_trans hj (by decide)
  have pre : ∃ w : Int, ∀ {r : R Fl}, exL (callFn T05 (d + 1) false) (callFn T05 (d + 1) true) false (body104.drop 2) [.int c, .int f, .int m, .ref σ.length, .int j, .int w] (σ ++ [.list (iv ns)]) = r →
      exL (callFn T05 (d + 1) false) (callFn T05 (d + 1) true) false body104 [.int c, .int f, .int m, .ref σ.length, .int j, x5] (σ ++ [.list (iv ns)]) = r := by
    have eq4 : ∀ {a : CE} {x n : Int} {σ : Sto} {ρ : List V} {F : Calls}, evE F false a ρ σ = .ok (.int x) σ → readVar ρ 4 = some (.int j) → evE F false (.p2 .eq a (.p2 .add (.lit (.int n)) (.p2 .mul (.lit (.int 2)) (.var 4)))) ρ σ = .ok (.bool (x == n + 2 * (j : Int))) σ := fun {a x n σ ρ F} ha h4 =>
      e_p2 ha (e_p2 rfl (e_p2 rfl (by rw [x_var, h4]; rfl) (zBq σ 2 j (.inl rfl))) rfl) rfl
    cases h1 : (f == 4 + 2 * (j : Int) || m == 4 + 2 * (j : Int)) with
    | true => exact ⟨1, fun kk => s_asg (v := .int 0) rfl (s_t (zAC (t := true) (by rw [e_or (eq4 rfl rfl) (eq4 rfl rfl), h1])) (s_asg (v := .int 1) rfl kk))⟩
    | false =>
      cases h2 : (f == 5 + 2 * (j : Int) || m == 5 + 2 * (j : Int)) with
      | true => exact ⟨2, fun kk => s_asg (v := .int 0) rfl (s_f (zAC (t := false) (by rw [e_or (eq4 rfl rfl) (eq4 rfl rfl), h1])) (s_t (zAC (t := true) (by rw [e_or (eq4 rfl rfl) (eq4 rfl rfl), h2])) (s_asg (v := .int 2) rfl kk)))⟩
      | false => exact ⟨0, fun kk => s_asg (v := .int 0) rfl (s_f (zAC (t := false) (by rw [e_or (eq4 rfl rfl) (eq4 rfl rfl), h1])) (s_f (zAC (t := false) (by rw [e_or (eq4 rfl rfl) (eq4 rfl rfl), h2])) kk))⟩
  obtain ⟨w, pre⟩ := pre
  obtain ⟨lo, hi, hm, b1, b2⟩ := bounds5 (F := callFn T05 (d + 1) false) (σ := σ ++ [.list (iv ns)]) (c := c) (f := f) (m := m) (v := .ref σ.length) (w := .int w) hj
  obtain ⟨n, en⟩ := d_number (d := d) (q := false) (σ := σ ++ [.list (iv ns)]) (c.fdiv ((j : Int) + 1)) w lo hi hm
  have hdiv := divj_ok j (Nat.lt_trans hj (by decide))
  refine ⟨_, _, pre (s_exp (zAp (x := .ref σ.length) rfl (by show (listR _).isSome = true; rw [zBK]; rfl) (zAI (zAB (e_p2 rfl (e_p2 rfl rfl rfl) (zAe _ c _ hdiv)) (zAB rfl (zAB b1 (zAB b2 rfl)))) en) (zAi _ zBK hlim)) s_nil), ?_⟩
  rw [zHe, iv_add]
  exact .mk _ _ _ (by rw [List.length_append, hl]; rfl)
theorem d_line (c : Int) : ∃ (l : Ln) (ns : List V), A7 l.item ∧ callFn T05 (d + 2) false 104 [.int c] σ = .ok l.raw (σ ++ [.list ns]) := by
  have e1 : evE (callFn T05 (d + 1) false) false (.p2 .mod (.p2 .mod (.p2 .mul (.var 0) (.lit (.int 48271))) (.lit (.int 10007))) (.lit (.int 14))) [.int c, .undef, .undef, .undef, .undef, .undef] σ = .ok (.int (((c * 48271).fmod 10007).fmod 14)) σ := e_hash (c := c) rfl rfl rfl rfl rfl
  have e2 : ∀ f : Int, evE (callFn T05 (d + 1) false) false (.p2 .mod (.p2 .mod (.p2 .mul (.var 0) (.lit (.int 48271))) (.lit (.int 10009))) (.lit (.int 14))) [.int c, .int f, .undef, .undef, .undef, .undef] σ = .ok (.int (((c * 48271).fmod 10009).fmod 14)) σ := fun f => e_hash (c := c) rfl rfl rfl rfl rfl
  generalize ((c * 48271).fmod 10007).fmod 14 = f at e1
  generalize ((c * 48271).fmod 10009).fmod 14 = m at e2
  obtain ⟨ρ', σ', e, I⟩ := zEe (F := callFn T05 (d + 1) false) (Fq := callFn T05 (d + 1) true) (i := 4) (k := .range1) (src := [.lit (.int 3)]) (body := body104) (ρ := [.int c, .int f, .int m, .ref σ.length, .undef, .undef]) (vs := [.int 3]) (σ := σ ++ [.list (iv [])]) (σ₁ := σ ++ [.list (iv [])]) (it := .now (rangeL 0 (3 : Nat))) (xs := rangeL 0 (3 : Nat))
    (Nums σ c f m) rfl rfl (fun _ _ _ _ => .inl rfl) (.mk [] _ _ rfl) fun j x ρ σ' hx I => by
      obtain ⟨rfl, hj⟩ := zBz hx
      exact nums_turn hj I
  rw [zDr] at I
  cases I with
  | mk ns x4 x5 hl =>
  match ns, hl with
  | [n0, n1, n2], _ =>
  obtain ⟨s, hs, es⟩ := d_item (d := d) (σ := σ ++ [.list (iv [n0, n1, n2])]) c f
  have tail : exL (callFn T05 (d + 1) false) (callFn T05 (d + 1) true) false (zCw.body.drop 4) [.int c, .int f, .int m, .ref σ.length, x4, x5] (σ ++ [.list (iv [n0, n1, n2])]) = .ok (.ret ({ item := s, p := n0, c := n1, k := n2, s := 0, b := 0, a := 0, r := 0 } : Ln).raw) (σ ++ [.list (iv [n0, n1, n2])]) :=
    s_ret (e_tup (zAB (zAI rfl es) (zAB (e_p2 rfl rfl (zAq _ (i := 0) zBK rfl)) (zAB (e_p2 rfl rfl (zAq _ (i := 1) zBK rfl)) (zAB (e_p2 rfl rfl (zAq _ (i := 2) zBK rfl)) rfl)))))
  have pre : ∀ {r : R Fl}, exL (callFn T05 (d + 1) false) (callFn T05 (d + 1) true) false (zCw.body.drop 3) [.int c, .int f, .int m, .ref σ.length, .undef, .undef] (σ ++ [.list (iv [])]) = r → exL (callFn T05 (d + 1) false) (callFn T05 (d + 1) true) false zCw.body [.int c, .undef, .undef, .undef, .undef, .undef] σ = r := fun kk =>
    s_asg e1 (s_asg (e2 f) (s_asg (v := .ref σ.length) rfl kk))
  exact ⟨_, _, hs, zAH (fn := zCw) rfl rfl (pre (st_nx e tail))⟩
noncomputable def body105 : List CS := match zBp.body with
  | [_, _, _, _, .for _ _ _ b, _] => b
  | _ => []
inductive Drew (σ : Sto) (sc : List Int) (n : Nat) (g : Bool) (j : Nat) : List V → Sto → Prop
  | mk (ls : List Ln) (more : Sto) (x4 x5 x6 : V) (hl : ls.length = j) (ha : ∀ l ∈ ls, A7 l.item) : Drew σ sc n g j [.lst (iv sc), .int n, .bool g, .ref σ.length, x4, x5, x6] (σ ++ .list (ls.map Ln.raw) :: more)
theorem drew_turn {sc : List Int} {n : Nat} {g : Bool} {j : Nat} {ρ : List V} {σ' : Sto} (hj : j < 22) (I : Drew σ sc n g j ρ σ') :
    ∃ ρ' σ'', exL (callFn T05 (d + 2) false) (callFn T05 (d + 2) true) false body105 (ρ.set 4 (.int j)) σ' = .ok (.next ρ') σ'' ∧ Drew σ sc n g (j + 1) ρ' σ'' := by
  cases I with
  | mk ls more x4 x5 x6 hl ha =>
  have hlim : (ls.map Ln.raw).length < LIM := by rw [List.length_map, hl]; exact Nat.lt_trans hj (by decide)
  have add : ∀ l : Ln, A7 l.item → (∀ x ∈ ls ++ [l], A7 x.item) := fun l hl x hx => by
    rcases List.mem_append.mp hx with hx | hx
    · exact ha x hx
    · rw [List.mem_singleton.mp hx]; exact hl
  have hlen : ∀ l : Ln, (ls ++ [l]).length = j + 1 := fun l => by rw [List.length_append, hl]; rfl
  have raw_add : ∀ l : Ln, ls.map Ln.raw ++ [l.raw] = (ls ++ [l]).map Ln.raw := fun l => by rw [List.map_append]; rfl
  obtain ⟨k7, hk7, -⟩ := zBL (j : Int) (m := 7) (by decide)
  have hk7 : (j : Int).fmod 7 = (k7 : Int) := hk7
  generalize hσ : σ ++ O.list (ls.map Ln.raw) :: more = σ₁
  have h3 : σ₁[σ.length]? = some (.list (ls.map Ln.raw)) := by rw [← hσ]; exact zGe
  generalize hc : gI sc (3 + k7) * ((j : Int) + 1) + (j : Int) = c
  have e5 : evE (callFn T05 (d + 2) false) false (.p2 .add (.p2 .mul (.call 100 [.var 0, .p2 .add (.lit (.int 3)) (.p2 .mod (.var 4) (.lit (.int 7)))]) (.p2 .add (.var 4) (.lit (.int 1)))) (.var 4)) [.lst (iv sc), .int n, .bool g, .ref σ.length, .int j, x5, x6] σ₁ = .ok (.int c) σ₁ := by
    rw [← hc]
    refine e_p2 (e_p2 (zAI (zAB rfl (zAB (v := .int ((3 + k7 : Nat) : Int)) (e_p2 (z := .int ((3 + k7 : Nat) : Int)) rfl (e_p2 (z := .int (k7 : Int)) rfl rfl (by rw [← hk7]; exact zAW _ _ 7 rfl)) ?_) rfl)) (zBk sc (3 + k7))) (e_p2 rfl rfl rfl) (zBq _ _ _ (.inr (zFc (j := j + 1) (Nat.lt_trans (Nat.succ_lt_succ hj) (by decide)))))) rfl rfl
    show some (V.int (3 + (k7 : Int))) = _
    rw [Int.natCast_add]; rfl
  have e6 : ∀ {x : V}, evE (callFn T05 (d + 2) false) false (.p2 .mod (.p2 .mod (.p2 .mul (.call 100 [.var 0, .lit (.int 2)]) (.lit (.int 48271))) (.lit (.int 10009))) (.p2 .max (.lit (.int 1)) (.var 1))) [.lst (iv sc), .int n, .bool g, .ref σ.length, .int j, .int c, x] σ₁ = .ok (.int (((gI sc 2 * 48271).fmod 10009).fmod (if (n : Int) > 1 then (n : Int) else 1))) σ₁ := fun {x} =>
    e_hash (c := gI sc 2) (zAI rfl (zBk sc 2)) rfl (e_p2 rfl rfl (ev2_max _ 1 n)) rfl (max_ne n)
  generalize ((gI sc 2 * 48271).fmod 10009).fmod (if (n : Int) > 1 then (n : Int) else 1) = o at e6
  have et : evE (callFn T05 (d + 2) false) false (.and (.var 2) (.or (.p2 .ne (.var 4) (.var 6)) (.p2 .eq (.p2 .mod (.call 100 [.var 0, .lit (.int 2)]) (.lit (.int 3))) (.lit (.int 2))))) [.lst (iv sc), .int n, .bool g, .ref σ.length, .int j, .int c, .int o] σ₁ = .ok (.bool (g && (((j : Int) != o) || ((gI sc 2).fmod 3 == 2)))) σ₁ :=
    e_and rfl (e_or rfl (e_p2 (e_p2 (zAI rfl (zBk sc 2)) rfl (zAW _ _ 3 rfl)) rfl rfl))
  have pre : ∀ {r : R Fl}, exL (callFn T05 (d + 2) false) (callFn T05 (d + 2) true) false (body105.drop 2) [.lst (iv sc), .int n, .bool g, .ref σ.length, .int j, .int c, .int o] σ₁ = r →
      exL (callFn T05 (d + 2) false) (callFn T05 (d + 2) true) false body105 [.lst (iv sc), .int n, .bool g, .ref σ.length, .int j, x5, x6] σ₁ = r := fun kk => s_asg e5 (s_asg e6 kk)
  cases ht : (g && (((j : Int) != o) || ((gI sc 2).fmod 3 == 2))) with
  | true =>
    rw [ht] at et
    obtain ⟨s, hs, es⟩ := d_item (d := d + 1) (σ := σ₁) c 0
    refine ⟨_, _, pre (s_t (zAC et) (s_exp (zAp (x := .ref σ.length) rfl (by show (listR _).isSome = true; rw [h3]; rfl)
      (y := ({ item := s, p := 1 + c.fmod 1000000, c := c.fmod 1000000001, k := 1 + c.fmod 1000, s := 0, b := 0, a := 0, r := 0 } : Ln).raw)
      (e_tup (zAB (zAI rfl es) (zAB (e_p2 rfl (e_p2 rfl rfl rfl) rfl) (zAB (e_p2 rfl rfl rfl) (zAB (e_p2 rfl (e_p2 rfl rfl rfl) rfl) rfl))))) (zAi _ h3 hlim)) s_nil)), ?_⟩
    rw [← hσ, zFF, raw_add]
    exact .mk _ _ _ _ _ (hlen _) (add _ hs)
  | false =>
    rw [ht] at et
    obtain ⟨l, ns, hs, es⟩ := d_line (d := d) (σ := σ₁) c
    refine ⟨_, _, pre (s_f (zAC et) (s_exp (zAp (x := .ref σ.length) rfl (by show (listR _).isSome = true; rw [h3]; rfl) (zAI rfl es) (zAi _ (zBJ h3) hlim)) s_nil)), ?_⟩
    rw [← hσ, List.append_assoc, List.cons_append, zFF, raw_add]
    exact .mk _ _ _ _ _ (hlen _) (add _ hs)
theorem d_lines (sc : List Int) : ∃ (ls : List Ln) (more : Sto), ls.length ≤ 22 ∧ (∀ l ∈ ls, A7 l.item) ∧ callFn T05 (d + 3) false 105 [.lst (iv sc)] σ = .ok (.ref σ.length) (σ ++ .list (ls.map Ln.raw) :: more) := by
  have pre : ∃ n : Nat, n ≤ 22 ∧ ∃ g : Bool, ∀ {r : R Fl}, exL (callFn T05 (d + 2) false) (callFn T05 (d + 2) true) false (zBp.body.drop 4) [.lst (iv sc), .int n, .bool g, .ref σ.length, .undef, .undef, .undef] (σ ++ .list (([] : List Ln).map Ln.raw) :: []) = r →
      exL (callFn T05 (d + 2) false) (callFn T05 (d + 2) true) false zBp.body [.lst (iv sc), .undef, .undef, .undef, .undef, .undef, .undef] σ = r := by
    obtain ⟨n5, hn5, hn5'⟩ := zBL (gI sc 1) (m := 5) (by decide)
    have hn5 : (gI sc 1).fmod 5 = (n5 : Int) := hn5
    have gd : ∀ {x : V} {r : R Fl}, exL (callFn T05 (d + 2) false) (callFn T05 (d + 2) true) false (zBp.body.drop 4) [.lst (iv sc), x, .bool (decide ((gI sc 2).fmod 7 > 0)), .ref σ.length, .undef, .undef, .undef] (σ ++ .list (([] : List Ln).map Ln.raw) :: []) = r →
        exL (callFn T05 (d + 2) false) (callFn T05 (d + 2) true) false (zBp.body.drop 2) [.lst (iv sc), x, .undef, .undef, .undef, .undef, .undef] σ = r := fun {x r} kk =>
      s_asg (e_p2 (e_p2 (zAI rfl (zBk sc 2)) rfl (zAW _ _ 7 rfl)) rfl rfl) (s_asg (v := .ref σ.length) rfl kk)
    cases ht : (((gI sc 1).fdiv 5).fmod 3 == 1) with
    | true =>
      obtain ⟨n, hn, hn'⟩ := zBL ((gI sc 1 * 48271).fmod 10007) (m := 23) (by decide)
      have hn : ((gI sc 1 * 48271).fmod 10007).fmod 23 = (n : Int) := hn
      refine ⟨n, Nat.le_of_lt_succ hn', _, fun kk => s_asg (v := .int n5) (by rw [← hn5]; exact e_p2 (zAI rfl (zBk sc 1)) rfl (zAW _ _ 5 rfl)) (s_t (zAC (t := true) (e_p2 (e_p2 (e_p2 (zAI rfl (zBk sc 1)) rfl (zAe _ _ 5 rfl)) rfl (zAW _ _ 3 rfl)) rfl (by rw [zBO, ht])))
        (s_asg (v := .int n) (by rw [← hn]; exact e_hash (c := gI sc 1) (zAI rfl (zBk sc 1)) rfl rfl rfl rfl) (gd kk)))⟩
    | false =>
      refine ⟨n5, Nat.le_trans (Nat.le_of_lt hn5') (by decide), _, fun kk => s_asg (v := .int n5) (by rw [← hn5]; exact e_p2 (zAI rfl (zBk sc 1)) rfl (zAW _ _ 5 rfl)) (s_f (zAC (t := false) (e_p2 (e_p2 (e_p2 (zAI rfl (zBk sc 1)) rfl (zAe _ _ 5 rfl)) rfl (zAW _ _ 3 rfl)) rfl (by rw [zBO, ht]))) (gd kk))⟩
  obtain ⟨n, hn, g, pre⟩ := pre
  obtain ⟨ρ', σ', e, I⟩ := zEe (F := callFn T05 (d + 2) false) (Fq := callFn T05 (d + 2) true) (i := 4) (k := .range1) (src := [.var 1]) (body := body105) (ρ := [.lst (iv sc), .int n, .bool g, .ref σ.length, .undef, .undef, .undef]) (vs := [.int n]) (σ := σ ++ .list (([] : List Ln).map Ln.raw) :: []) (σ₁ := σ ++ .list (([] : List Ln).map Ln.raw) :: []) (it := .now (rangeL 0 n)) (xs := rangeL 0 n)
    (Drew σ sc n g) rfl (zAj _ (by show n ≤ LIM; exact Nat.le_trans hn (by decide))) (fun _ _ _ _ => .inl rfl) (.mk [] [] _ _ _ rfl (fun l hl => nomatch hl)) fun j x ρ σ' hx I => by
      obtain ⟨rfl, hj⟩ := zBz hx
      exact drew_turn (Nat.lt_of_lt_of_le hj hn) I
  rw [zDr] at I
  cases I with
  | mk ls more x4 x5 x6 hl ha =>
  exact ⟨ls, more, hl.symm ▸ hn, ha, zAH (fn := zBp) rfl rfl (pre (st_nx e (s_ret rfl)))⟩
end
end Mine
end

/-! # L05d -/
section
set_option autoImplicit false
namespace Mine
open PySem
noncomputable def nm5 : Cls → Str
  | .NoLines => { cps := #[78, 111, 76, 105, 110, 101, 115] }
  | .NoItem => { cps := #[78, 111, 73, 116, 101, 109] }
  | .NoNumber => { cps := #[78, 111, 78, 117, 109, 98, 101, 114] }
  | .FullBook => { cps := #[70, 117, 108, 108, 66, 111, 111, 107] }
  | _ => { cps := #[] }
noncomputable def cls5 : Cls → Bool
  | .NoLines | .NoItem | .NoNumber | .FullBook => true
  | _ => false
theorem lines_cls {ls : List Ln} {c : Cls} (h : linesErr ls = some c) : cls5 c = true := by
  unfold linesErr at h
  split at h
  · obtain ⟨l, _, hl⟩ := List.exists_of_findSome?_eq_some h
    unfold lineErr at hl
    split at hl
    · split at hl <;> cases hl; rfl
    · cases hl; rfl
  · cases h; rfl
theorem order_cls {ls : List Ln} {n : Nat} {c : Cls} (h : orderErr ls n = some c) : cls5 c = true := by
  unfold orderErr at h
  cases hl : linesErr ls with
  | some c' => rw [hl] at h; cases h; exact lines_cls hl
  | none =>
    rw [hl] at h
    have h : (if 40 ≤ n then some Cls.FullBook else none) = some c := h
    split at h
    · cases h; rfl
    · cases h
section
variable {d : Nat} {q : Bool} {σ σ' : Sto} {b e h n : Nat} {es hs : List V}
theorem d_tried {deed v : V} (hi : isInst σ (.ref b) = true) (hd : callFn T05 d false 2 [.ref b, deed] σ = .ok v σ') (hv : readVar [.ref b, deed] 1 = some deed) : callFn T05 (d + 1) false 108 [.ref b, deed] σ = .ok v σ' := by
  refine zAH (fn := zHI) rfl rfl ?_
  show exL _ _ false [.try .ret (.callm 2 (.var 0) [.var 1]) _] [.ref b, deed] σ = _
  rw [zAg, x_try, if_neg (by decide), zAM (r := .ok v σ') rfl hi (zAB (by rw [x_var, hv]; rfl) rfl) hd]; rfl
theorem d_triedX {deed : V} {c : Cls} (hi : isInst σ (.ref b) = true) (hc : cls5 c = true) (hd : callFn T05 d false 2 [.ref b, deed] σ = .exc c σ') (hv : readVar [.ref b, deed] 1 = some deed) : callFn T05 (d + 1) false 108 [.ref b, deed] σ = .ok (.str (nm5 c)) σ' := by
  refine zAH (fn := zHI) rfl rfl ?_
  show exL _ _ false [.try .ret (.callm 2 (.var 0) [.var 1]) _] [.ref b, deed] σ = _
  rw [zAg, x_try, if_neg (by decide), zAM (r := .exc c σ') rfl hi (zAB (by rw [x_var, hv]; rfl) rfl) hd]
  cases c <;> first | rfl | cases hc
theorem d_refused {deed : V} {c : Cls} (hi : isInst σ (.ref b) = true) (hc : cls5 c = true) (hd : callFn T05 (d + 1) false 2 [.ref b, deed] σ = .exc c σ') (hv : readVar [.ref b, deed, .undef] 1 = some deed) : callFn T05 (d + 2) false 110 [.ref b, deed] σ = .ok (.bool true) σ' := by
  refine zAH (fn := f05_110) rfl rfl ?_
  show exL _ _ false [.try .exp (.callm 2 (.var 0) [.var 1]) _, _] [.ref b, deed, .undef] σ = _
  rw [zAg, x_try, if_neg (by decide), zAM (r := .exc c σ') rfl hi (zAB (by rw [x_var, hv]; rfl) rfl) hd]
  cases c <;> first | rfl | cases hc
theorem zDg {F : Calls} {ρ : List V} {a b c : CE} {lo x hi : Int} (ha : evE F q a ρ σ = .ok (.int lo) σ) (hb : evE F q b ρ σ = .ok (.int x) σ) (hc : evE F q c ρ σ = .ok (.int hi) σ) : evE F q (.chain a [.lt, .lt] [b, c]) ρ σ = .ok (.bool (decide (lo < x) && decide (x < hi))) σ := by
  rw [zDk, ha, R.bind_ok, x_ch2, hb]
  show (if decide (lo < x) = true then evChain F q [P2.lt] [c] (.int x) ρ σ else .ok (.bool (decide (lo < x))) σ) = _
  cases decide (lo < x) with
  | false => rfl
  | true =>
    show evChain F q [P2.lt] [c] (.int x) ρ σ = _
    rw [x_ch1, hc]; rfl
theorem dec_in (a b : Int) (x : Int) : (decide (a < x) && decide (x < b + 1)) = (decide (a + 1 ≤ x) && decide (x ≤ b)) := by
  rw [show decide (x < b + 1) = decide (x ≤ b) from decide_eq_decide.mpr Int.lt_add_one_iff]; rfl
theorem len_in (n m : Nat) : (decide ((0 : Int) < (n : Int)) && decide ((n : Int) < (m : Int) + 1)) = (decide (1 ≤ n) && decide (n ≤ m)) := by
  rw [dec_in 0 m n, zCy n m, show (0 : Int) + 1 = ((1 : Nat) : Int) from rfl, zCy 1 n]
noncomputable def signErr (c : Nat) : Option Cls := if letterOk c = true then none else some .NoItem
theorem zHc {cs : List Nat} : cs.findSome? signErr = none ↔ cs.all letterOk = true := by
  rw [List.findSome?_eq_none_iff, List.all_eq_true]
  refine forall_congr' fun c => forall_congr' fun _ => ?_
  unfold signErr
  by_cases h : letterOk c = true
  · rw [if_pos h]; exact ⟨fun _ => h, fun _ => rfl⟩
  · rw [if_neg h]; exact ⟨fun q => (nomatch q), fun q => absurd q h⟩
theorem d_isItem {s : Str} (hs : A7 s) : callFn T05 (d + 1) false 106 [.str s] σ = .ok (.bool (itemOk s)) σ := by
  have e2 : ∀ x : V, exL (callFn T05 d false) (callFn T05 d true) false (zBo.body.drop 1) [.str s, x] σ = .ok (.ret (.bool (decide (1 ≤ s.length) && decide (s.length ≤ 12)))) σ := fun x => by
    refine s_ret ?_
    rw [zDg (lo := 0) (x := (s.length : Int)) (hi := (12 : Nat) + 1) rfl rfl rfl, len_in]
  obtain ⟨h1, h2⟩ := zEd (F := callFn T05 d false) (Fq := callFn T05 d true) (i := 1) (k := .val) (src := [.var 0]) (body := match zBo.body with
      | .for _ _ _ b :: _ => b
      | _ => []) (ρ := [.str s, .undef]) (vs := [.str s]) (σ := σ) (it := .now (charsOf s)) (l := codes s) (φ := fun c => .str (mkS [c])) signErr (fun _ => .inr (.bool false)) (fun ρ => ∃ x, ρ = [.str s, x]) rfl
    (show itemsBy σ .val [.str s] = some (.now (charsOf s)) by show (if s.cps.all (· < 128) = true then some (Items.now (charsOf s)) else none) = _; rw [if_pos hs.all]) (.inl rfl) ⟨_, rfl⟩
    fun c hc ρ hI => by
      obtain ⟨y, rfl⟩ := hI
      have ec : evE (callFn T05 d false) false (.p2 .notIn (.var 1) (.lit (.str letters))) [.str s, .str (mkS [c])] σ = .ok (.bool !letterOk c) σ := rfl
      unfold signErr
      by_cases hl : letterOk c = true
      · rw [if_pos hl]
        exact ⟨fun c' q => (nomatch q), fun _ => ⟨[.str s, .str (mkS [c])], s_f (zAC (by rw [hl] at ec; exact ec)) rfl, _, rfl⟩⟩
      · rw [if_neg hl]
        exact ⟨fun c' q => s_t (zAC (by rw [Bool.eq_false_iff.mpr hl] at ec; exact ec)) (s_ret rfl), fun q => (nomatch q)⟩
  refine zAH (fn := zBo) rfl rfl ?_
  show exL (callFn T05 d false) (callFn T05 d true) false zBo.body [.str s, .undef] σ = _
  unfold itemOk
  cases hf : (codes s).findSome? signErr with
  | none =>
    obtain ⟨ρ', e', x, rfl⟩ := h2 hf
    rw [zHc.mp hf, Bool.and_true]
    exact st_nx e' (e2 x)
  | some c =>
    have : (codes s).all letterOk = false := Bool.eq_false_iff.mpr fun q => by rw [zHc.mpr q] at hf; cases hf
    rw [this, Bool.and_false]
    show exL (callFn T05 d false) (callFn T05 d true) false (_ :: zBo.body.drop 1) [.str s, .undef] σ = _
    rw [zAg]
    exact congrArg (fun r => R.bind r (thenL (callFn T05 d false) (callFn T05 d true) false (zBo.body.drop 1))) (h1 c hf)
noncomputable def dueS : Option Cls → Str
  | none => { cps := #[] }
  | some c => nm5 c
noncomputable def body107 : List CS := match zBY.body with
  | [_, .for _ _ _ b, _, _] => b
  | _ => []
theorem turn107 {l : Ln} (ha : A7 l.item) (v w y : V) : (∀ c, lineErr l = some c → exL (callFn T05 (d + 1) false) (callFn T05 (d + 1) true) false body107 ([v, w, y].set 2 l.raw) σ = leave σ (.inr (.str (nm5 c)))) ∧
    (lineErr l = none → ∃ ρ', exL (callFn T05 (d + 1) false) (callFn T05 (d + 1) true) false body107 ([v, w, y].set 2 l.raw) σ = .ok (.next ρ') σ ∧ ∃ x, ρ' = [v, w, x]) := by
  have e1 : evE (callFn T05 (d + 1) false) false (.p1 .not (.call 106 [.p2 .index (.var 2) (.lit (.int 0))])) [v, w, l.raw] σ = .ok (.bool !itemOk l.item) σ := e_p1 (zAI rfl (d_isItem ha)) rfl
  have e2 : evE (callFn T05 (d + 1) false) false (.or (.p1 .not (.chain (.lit (.int 0)) [.lt, .lt] [.p2 .index (.var 2) (.lit (.int 1)), .lit (.int 1000001)]))
      (.or (.p1 .not (.chain (.lit (.int 0)) [.le, .le] [.p2 .index (.var 2) (.lit (.int 2)), .lit (.int 1000000000)])) (.p1 .not (.chain (.lit (.int 0)) [.lt, .lt] [.p2 .index (.var 2) (.lit (.int 3)), .lit (.int 1001)])))) [v, w, l.raw] σ = .ok (.bool !numsOk l) σ := by
    rw [e_or (e_p1 (zDg (lo := 0) (x := l.p) (hi := 1000000 + 1) rfl rfl rfl) rfl) (e_or (e_p1 (zAx (lo := 0) (x := l.c) (hi := 1000000000) rfl rfl rfl) rfl) (e_p1 (zDg (lo := 0) (x := l.k) (hi := 1000 + 1) rfl rfl rfl) rfl)), dec_in 0 1000000, dec_in 0 1000]
    unfold numsOk
    rw [← Bool.not_and, ← Bool.not_and]; rfl
  unfold lineErr
  show (∀ c, _ → exL (callFn T05 (d + 1) false) (callFn T05 (d + 1) true) false body107 [v, w, l.raw] σ = _) ∧ (_ → ∃ ρ', exL (callFn T05 (d + 1) false) (callFn T05 (d + 1) true) false body107 [v, w, l.raw] σ = _ ∧ _)
  by_cases hi : itemOk l.item = true
  · rw [if_pos hi]
    by_cases hn : numsOk l = true
    · rw [if_pos hn]
      exact ⟨fun c h => (nomatch h), fun _ => ⟨[v, w, l.raw], s_f (zAC (by rw [hi] at e1; exact e1)) (s_f (zAC (by rw [hn] at e2; exact e2)) rfl), _, rfl⟩⟩
    · rw [if_neg hn]
      refine ⟨fun c h => ?_, fun h => (nomatch h)⟩
      cases h
      exact s_f (zAC (by rw [hi] at e1; exact e1)) (s_t (zAC (by rw [Bool.eq_false_iff.mpr hn] at e2; exact e2)) (s_ret rfl))
  · rw [if_neg hi]
    refine ⟨fun c h => ?_, fun h => (nomatch h)⟩
    cases h
    exact s_t (zAC (by rw [Bool.eq_false_iff.mpr hi] at e1; exact e1)) (s_ret rfl)
theorem d_due {ls : List Ln} (hn : σ[n]? = some (.list (ls.map Ln.raw))) (ha : ∀ l ∈ ls, A7 l.item) (m : Nat) : callFn T05 (d + 2) false 107 [.ref n, .int m] σ = .ok (.str (dueS (orderErr ls m))) σ := by
  have eb : evE (callFn T05 (d + 1) false) false (.p1 .not (.chain (.lit (.int 0)) [.lt, .lt] [.p1 .len (.var 0), .lit (.int 21)])) [.ref n, .int m, .undef] σ = .ok (.bool !lenOk ls) σ := by
    refine e_p1 (zDg (lo := 0) (x := (ls.length : Int)) (hi := (20 : Nat) + 1) rfl (e_p1 rfl (by rw [zAw σ hn, List.length_map])) rfl) ?_
    rw [len_in]; rfl
  refine zAH (fn := zBY) rfl rfl ?_
  show exL (callFn T05 (d + 1) false) (callFn T05 (d + 1) true) false zBY.body [.ref n, .int m, .undef] σ = _
  unfold orderErr linesErr
  by_cases hl : lenOk ls = true
  · rw [if_pos hl]
    obtain ⟨h1, h2⟩ := zEd (F := callFn T05 (d + 1) false) (Fq := callFn T05 (d + 1) true) (i := 2) (k := .val) (src := [.var 0]) (body := body107) (ρ := [.ref n, .int m, .undef]) (σ := σ) (l := ls) (φ := Ln.raw) lineErr (fun c => .inr (.str (nm5 c))) (fun ρ => ∃ x, ρ = [.ref n, .int m, x]) rfl (zEX σ hn) (.inr ⟨n, rfl, hn⟩) ⟨_, rfl⟩
      fun l hm ρ hI => by obtain ⟨y, rfl⟩ := hI; exact turn107 (ha l hm) _ _ y
    have pre : ∀ {r : R Fl}, exL (callFn T05 (d + 1) false) (callFn T05 (d + 1) true) false (zBY.body.drop 1) [.ref n, .int m, .undef] σ = r → exL (callFn T05 (d + 1) false) (callFn T05 (d + 1) true) false zBY.body [.ref n, .int m, .undef] σ = r := fun k =>
      s_f (zAC (by rw [hl] at eb; exact eb)) k
    cases hf : ls.findSome? lineErr with
    | some c =>
      refine pre ?_
      show exL (callFn T05 (d + 1) false) (callFn T05 (d + 1) true) false (.for 2 .val [.var 0] body107 :: zBY.body.drop 2) [.ref n, .int m, .undef] σ = _
      rw [zAg, h1 c hf]; rfl
    | none =>
      obtain ⟨ρ', e', x, rfl⟩ := h2 hf
      refine pre (st_nx e' ?_)
      show exL (callFn T05 (d + 1) false) (callFn T05 (d + 1) true) false (zBY.body.drop 2) [.ref n, .int m, x] σ = .ok (.ret (.str (dueS (if 40 ≤ m then some Cls.FullBook else none)))) σ
      by_cases h4 : 40 ≤ m
      · rw [if_pos h4]
        exact s_t (zAC (t := true) (e_p2 rfl rfl (by rw [ev2_gt]; exact congrArg (fun b => some (V.bool b)) (decide_eq_true (Int.ofNat_lt.mpr h4))))) (s_ret rfl)
      · rw [if_neg h4]
        exact s_f (zAC (t := false) (e_p2 rfl rfl (by rw [ev2_gt]; exact congrArg (fun b => some (V.bool b)) (decide_eq_false fun q => h4 (Int.ofNat_lt.mp q))))) (s_ret rfl)
  · rw [if_neg hl]
    exact s_t (zAC (by rw [Bool.eq_false_iff.mpr hl] at eb; exact eb)) (s_ret rfl)
end
end Mine
end

/-! # L05e -/
section
set_option autoImplicit false
namespace Mine
open PySem
section
variable {d : Nat} {q : Bool} {σ σ' : Sto} {b e h n : Nat} {es hs : List V}
noncomputable def told0 (ls : List Ln) : List V := (ls.map Ln.fresh).map toldV
noncomputable def body111 : List CS := match zHH.body with
  | [_, .for _ _ _ b, _] => b
  | _ => []
noncomputable def body111' : List CS := match body111 with
  | [_, .for _ _ _ b] => b
  | _ => []
theorem told_turn {ls : List Ln} {j : Nat} {l : Ln} {x3 : V} (hn : σ[n]? = some (.list (ls.map Ln.raw))) (hl : ls[j]? = some l) :
    ∃ y, exL (callFn T05 (d + 1) false) (callFn T05 (d + 1) true) false body111 [.lst (told0 ls), .ref n, .int j, x3] σ = .ok (.next [.lst (told0 ls), .ref n, .int j, y]) σ := by
  have hf : (told0 ls)[j]? = some (toldV l.fresh) := by unfold told0; rw [List.getElem?_map, List.getElem?_map, hl]; rfl
  have hr : (ls.map Ln.raw)[j]? = some l.raw := by rw [List.getElem?_map, hl]; rfl
  have ef : ∀ {F : Calls}, evE F false (.p2 .index (.var 0) (.var 2)) [.lst (told0 ls), .ref n, .int j, x3] σ = .ok (toldV l.fresh) σ := e_p2 rfl rfl (zCt σ hf)
  have er : ∀ {F : Calls}, evE F false (.p2 .index (.var 1) (.var 2)) [.lst (told0 ls), .ref n, .int j, x3] σ = .ok l.raw σ := e_p2 rfl rfl (zAq σ hn hr)
  obtain ⟨ρ', σ', e, y, rfl, rfl⟩ := zEe (F := callFn T05 (d + 1) false) (Fq := callFn T05 (d + 1) true) (i := 3) (k := .val) (src := [.slice (.p2 .index (.var 0) (.var 2)) (some (.lit (.int 1))) none]) (body := body111') (ρ := [.lst (told0 ls), .ref n, .int j, x3]) (σ := σ) (σ₁ := σ) (xs := [.int l.p, .int 0, .int 0, .int 0, .int 0])
    (fun _ ρ σ' => ∃ y, ρ = [.lst (told0 ls), .ref n, .int j, y] ∧ σ' = σ) (zAB (zFO ef rfl rfl rfl) rfl) rfl (fun _ _ _ _ => .inl rfl) ⟨_, rfl, rfl⟩ fun k x ρ σ' hx hI => by
      obtain ⟨y, rfl, rfl⟩ := hI
      have : ∃ i : Int, x = .int i := by
        have := List.mem_of_getElem? hx
        simp only [List.mem_cons, List.not_mem_nil, or_false] at this
        rcases this with rfl | rfl | rfl | rfl | rfl <;> exact ⟨_, rfl⟩
      obtain ⟨i, rfl⟩ := this
      exact ⟨[.lst (told0 ls), .ref n, .int j, .int i], _, s_f (zAC (e_p1 (zAI rfl (g_whole (d := d) (k := 101) rfl i)) rfl)) rfl, _, rfl, rfl⟩
  refine ⟨y, s_f (zAC (zAh (e_p1 (e_p1 ef rfl) rfl) rfl (e_p2 ef (y := toldV l.fresh) (e_tup (zAB (e_p2 er rfl rfl) (zAB (e_p2 er rfl rfl) rfl))) (zEU ⟨_, rfl⟩)))) (st_nx e rfl)⟩
theorem zEw {ls : List Ln} (hn : σ[n]? = some (.list (ls.map Ln.raw))) (hl : ls.length ≤ LIM) : callFn T05 (d + 2) false 111 [.lst (told0 ls), .ref n] σ = .ok (.bool true) σ := by
  have len1 : ∀ {F : Calls} {x y : V}, evE F false (.p1 .len (.var 1)) [.lst (told0 ls), .ref n, x, y] σ = .ok (.int ls.length) σ := e_p1 rfl (by rw [zAw σ hn, List.length_map])
  obtain ⟨ρ', σ', e, x, y, rfl, rfl⟩ := zEe (F := callFn T05 (d + 1) false) (Fq := callFn T05 (d + 1) true) (i := 2) (k := .range1) (src := [.p1 .len (.var 1)]) (body := body111) (ρ := [.lst (told0 ls), .ref n, .undef, .undef]) (vs := [.int ls.length]) (σ := σ) (σ₁ := σ) (it := .now (rangeL 0 ls.length)) (xs := rangeL 0 ls.length)
    (fun _ ρ σ' => ∃ x y, ρ = [.lst (told0 ls), .ref n, x, y] ∧ σ' = σ) (zAB len1 rfl) (zAj _ hl) (fun _ _ _ _ => .inl rfl) ⟨_, _, rfl, rfl⟩ fun j x ρ σ' hx hI => by
      obtain ⟨x', y', rfl, rfl⟩ := hI
      obtain ⟨rfl, hj⟩ := zBz hx
      obtain ⟨y, ey⟩ := told_turn (d := d) (x3 := y') hn (List.getElem?_eq_getElem hj)
      exact ⟨_, _, ey, _, _, rfl, rfl⟩
  refine zAH (fn := zHH) rfl rfl (s_f (zAC (zAh rfl rfl (e_p2 (e_p1 rfl rfl) len1 ?_))) (st_nx e (s_ret rfl)))
  show some (V.bool !(((told0 ls).length : Int) == (ls.length : Int))) = _
  unfold told0
  rw [List.length_map, List.length_map, beq_self_eq_true]; rfl
theorem d_parts {ls : List Ln} (hi : isInst σ (.ref b) = true) (hn : σ[n]? = some (.list (ls.map Ln.raw))) : callFn T05 (d + 2) false 112 [.ref b, .ref n] σ = .ok (.bool true) σ := by
  have el : ∀ {F : Calls} {x y : V}, evE F false (.p1 .toList (.var 1)) [.ref b, .ref n, x, y] σ = .ok (.lst (ls.map Ln.raw)) σ := e_p1 rfl (LV.list (e := n + 1) (.ref n hn (by omega)))
  obtain ⟨ρ', σ', e, x, y, rfl, rfl⟩ := zEe (F := callFn T05 (d + 1) false) (Fq := callFn T05 (d + 1) true) (i := 2) (k := .val)
    (src := [.list [.tup [.lit (.str sOrd)], .tup [.lit (.str sOrd), .p1 .toList (.var 1), .lit (.int 0)], .tup [.lit (.str sOrd), .p1 .toList (.var 1), .p1 .toList (.var 1)]]]) (body := match zHG.body with
      | .for _ _ _ b :: _ => b
      | _ => []) (ρ := [.ref b, .ref n, .undef, .undef]) (σ := σ) (σ₁ := σ) (xs := [.tup [.str sOrd], .tup [.str sOrd, .lst (ls.map Ln.raw), .int 0], .tup [.str sOrd, .lst (ls.map Ln.raw), .lst (ls.map Ln.raw)]])
    (fun _ ρ σ' => ∃ x y, ρ = [.ref b, .ref n, x, y] ∧ σ' = σ) (zAB (zGZ (zAB rfl (zAB (e_tup (zAB rfl (zAB el rfl))) (zAB (e_tup (zAB rfl (zAB el (zAB el rfl)))) rfl)))) rfl) rfl (fun _ _ _ _ => .inl rfl) ⟨_, _, rfl, rfl⟩ fun j x ρ σ' hx hI => by
      obtain ⟨x', y', rfl, rfl⟩ := hI
      have : ∃ vs : List V, x = .tup (.str sOrd :: vs) ∧ vs.length ≠ 1 := by
        have := List.mem_of_getElem? hx
        simp only [List.mem_cons, List.not_mem_nil, or_false] at this
        rcases this with rfl | rfl | rfl <;> exact ⟨_, rfl, by simp⟩
      obtain ⟨vs, rfl, hv⟩ := this
      refine ⟨[.ref b, .ref n, .tup (.str sOrd :: vs), .bool true], σ', s_asg (v := .bool false) rfl (st_nx (ρ₁ := [.ref b, .ref n, .tup (.str sOrd :: vs), .bool true]) (σ₁ := σ') ?_ (s_f (zAC rfl) rfl)), _, _, rfl, rfl⟩
      rw [x_try, if_neg (by decide), zAM (r := .exc .NoDeed σ') rfl hi (zAB rfl rfl) (b_doN bookTab05 hv)]; rfl
  exact zAH (fn := zHG) rfl rfl (st_nx e (s_ret rfl))
theorem pop_at {m : Nat} {xs : List V} {x : V} (hm : σ[m]? = some (.list (xs ++ [x]))) : doPop σ (.ref m) = .ok x (σ.set m (.list xs)) := by
  show (match σ[m]? with
    | some (.list xs) => match xs[xs.length - 1]? with
      | some x => R.ok x (σ.set m (.list (xs.eraseIdx (xs.length - 1))))
      | none => .stuck
    | _ => .stuck) = _
  rw [hm]
  have hl : (xs ++ [x]).length - 1 = xs.length := by rw [List.length_append]; rfl
  show (match (xs ++ [x])[(xs ++ [x]).length - 1]? with
      | some y => R.ok y (σ.set m (.list ((xs ++ [x]).eraseIdx ((xs ++ [x]).length - 1))))
      | none => .stuck) = _
  rw [hl, List.getElem?_append_right (Nat.le_refl _), Nat.sub_self, List.eraseIdx_append_of_length_le (Nat.le_refl _), Nat.sub_self, show ([x] : List V).eraseIdx 0 = [] from rfl, List.append_nil]; rfl
noncomputable def undone (σ : Sto) (e h : Nat) (es hs : List V) : Sto := (σ.set h (.list hs)).set e (.list es)
theorem d_undo {x w : V} {ys : List V} (B : BookIn σ b e h (es ++ [x]) (hs ++ [.tup [.tup [.str sOrd, .lst ys], w]])) : callFn T05 (d + 1) q 9 [.ref b] σ = .ok (.tup [.str sOrd, .lst ys]) (undone σ e h es hs) := by
  have B1 := B.setH hs
  have eh : ev2 .eq σ (.ref h) (.lst []) = some (.bool false) := by
    show (eqV σ (.ref h) (.lst [])).map V.bool = _
    unfold eqV
    rw [show listOf? σ (.ref h) = listR σ[h]? from rfl, B.his]
    show (if ((hs ++ [V.tup [.tup [.str sOrd, .lst ys], w]]).length != ([] : List V).length) = true then some false else _).map V.bool = _
    rw [if_pos (by rw [List.length_append]; exact bne_iff_ne.mpr (by simp))]; rfl
  refine zAH (fn := f05_9) rfl rfl (s_f (zAC (e_p2 (e_his B rfl) rfl eh)) (s_asg (v := .tup [.tup [.str sOrd, .lst ys], w]) (σ' := σ.set h (.list hs)) ?_ (s_t (zAC rfl) (s_exp (v := x) (σ' := undone σ e h es hs) ?_ (s_ret (e_tup (zAB rfl (zAB (e_p1 (x := .lst ys) rfl rfl) rfl))))))))
  · rw [x_pop, e_his B rfl, R.bind_ok]; exact pop_at B.his
  · rw [x_pop, e_ent B1 rfl, R.bind_ok]; exact pop_at B1.ent
theorem undone_in {x w : V} (B : BookIn σ b e h (es ++ [x]) (hs ++ [w])) : BookIn (undone σ e h es hs) b e h es hs := (B.setH hs).setE es
theorem zCq {ls : List Ln} (B : BookIn σ b e h es hs) : BookIn (ordered σ e h es hs ls) b e h (es ++ [(newOr ls).v]) (hs ++ [.tup [dO ls, .ref (σ.set e (.list (es ++ [(newOr ls).v]))).length]]) := ((B.setE _).push _).setH _
theorem zBm {ls : List Ln} {x : O} (hn : σ[n]? = some x) (h1 : n ≠ e) (h2 : n ≠ h) : (ordered σ e h es hs ls)[n]? = some x := zAL (zBJ (zAL hn h1.symm)) h2.symm
theorem undone_get {x : O} (hn : σ[n]? = some x) (h1 : n ≠ e) (h2 : n ≠ h) : (undone σ e h es hs)[n]? = some x := zAL (zAL hn h2.symm) h1.symm
theorem eq_name (c : Cls) : ev2 .eq σ (.str (nm5 c)) (.str (nm5 c)) = some (.bool true) := by
  show (eqV σ (.str (nm5 c)) (.str (nm5 c))).map V.bool = _
  rw [zHN ⟨_, rfl⟩]; rfl
inductive Room (r : R V) (b e h n : Nat) (k : Nat) (x : O) : Prop
  | mk (σ' : Sto) (es hs : List V) (er : r = .ok (.bool true) σ') (B : BookIn σ' b e h es hs) (hl : es.length = k)
theorem d_room {ls : List Ln} {us : List Or} {x w : V} {ys : List V} (B : BookIn σ b e h (us.map Or.v ++ [x]) (hs ++ [.tup [.tup [.str sOrd, .lst ys], w]])) (h39 : us.length = 39) (hh : hs.length + 1 < LIM) (hn : σ[n]? = some (.list (ls.map Ln.raw))) (ne : n ≠ e) (nh : n ≠ h) (ha : ∀ l ∈ ls, A7 l.item) (hl : linesErr ls = none) :
    Room (callFn T05 (d + 6) false 113 [.ref b, .ref n] σ) b e h n 40 (.list (ls.map Ln.raw)) := by
  have hasc : ∀ l ∈ ls, asc l := fun l hm => (ha l hm).all
  have B1 := undone_in B
  have n1 := undone_get (es := us.map Or.v) (hs := hs) hn ne nh
  generalize hσ1 : undone σ e h (us.map Or.v) hs = σ₁ at B1 n1
  have o1 : orderErr ls (us.map Or.v).length = none := by unfold orderErr; rw [hl, List.length_map, h39]; rfl
  have d1 := b_doV (d := d) bookTab05 B1 (v := .lst (ls.map Ln.raw)) .lst hasc o1 (Nat.lt_of_succ_lt hh)
  have B2 := zCq (ls := ls) B1
  have n2 := zBm (es := us.map Or.v) (hs := hs) (ls := ls) n1 ne nh
  generalize hσ2 : ordered σ₁ e h (us.map Or.v) hs ls = σ₂ at d1 B2 n2
  have l2 : (us.map Or.v ++ [(newOr ls).v]).length = 40 := by rw [List.length_append, List.length_map, h39]; rfl
  have o2 : orderErr ls (us.map Or.v ++ [(newOr ls).v]).length = some .FullBook := by unfold orderErr; rw [hl, l2]; rfl
  have d2 := b_doVX (d := d) bookTab05 B2 (v := .lst (ls.map Ln.raw)) .lst hasc o2
  have u39 : (us.map Or.v ++ [(newOr ls).v])[39]? = some (newOr ls).v := by
    rw [List.getElem?_append_right (by rw [List.length_map, h39]; exact Nat.le_refl _), List.length_map, h39]; rfl
  have h20 := (zBG hl).2.1
  have tl : ∀ {F : Calls} {σ : Sto} {x : V}, σ[n]? = some (.list (ls.map Ln.raw)) → evE F false (.p1 .toList (.var 1)) [.ref b, .ref n, x] σ = .ok (.lst (ls.map Ln.raw)) σ := fun hn => e_p1 rfl (LV.list (e := n + 1) (.ref n hn (by omega)))
  refine ⟨σ₂, _, _, zAH (fn := f05_113) rfl rfl (s_exp (zAM rfl B.isInst rfl (d_undo (d := d + 4) B)) ?_), B2, l2⟩
  rw [hσ1]
  refine s_asg (v := .lst []) (zAI (zAB rfl (zAB (e_tup (zAB rfl (zAB (tl n1) rfl))) rfl)) (d_tried (d := d + 4) B1.isInst d1 rfl)) ?_
  refine s_f (zAC (zAh (e_p2 rfl rfl (zEU ⟨_, rfl⟩)) rfl (zAh (x := .bool false) (e_p2 (zAM rfl B2.isInst rfl (zFQ (d := d + 4) bookTab05 B2)) rfl (by rw [l2]; rfl)) rfl (e_p1 (zAI (zAB (zAM rfl B2.isInst (zAB rfl rfl) (b_told (d := d + 3) bookTab05 rfl B2 (o := 39) u39 ?_)) (zAB rfl rfl)) (zEw (d := d + 3) n2 ?_)) rfl)))) ?_
  · show (ls.map Ln.fresh).length < LIM; rw [List.length_map]; exact Nat.lt_of_le_of_lt h20 (by decide)
  · exact Nat.le_trans h20 (by decide)
  exact s_ret (e_p2 (zAI (zAB rfl (zAB (e_tup (zAB rfl (zAB (tl n2) rfl))) rfl)) (d_triedX (d := d + 4) B2.isInst rfl d2 rfl)) rfl (eq_name .FullBook))
end
end Mine
end

/-! # L05f -/
section
set_option autoImplicit false
namespace Mine
open PySem
section
variable {d : Nat} {σ σ' : Sto} {b e h n : Nat} {es hs : List V}
noncomputable def OrdH (x : V) : Prop := ∃ ys w, x = .tup [.tup [.str sOrd, .lst ys], w]
inductive Beg (l : List Int) (m : Nat) (j : Nat) : List V → Sto → Prop
  | mk (us : List Or) (hs : List V) (x3 : V) (σ : Sto) (B : BookIn σ 0 1 2 (us.map Or.v) hs) (hl : us.length = j) (hh : hs.length = j) (ok : ∀ u ∈ us, u.ok) (oh : ∀ x ∈ hs, OrdH x) : Beg l m j [.lst (iv l), .int m, .ref 0, x3, .undef, .undef, .undef, .undef, .undef, .undef, .undef] σ
noncomputable def pen (k : Nat) : Ln := { item := { cps := #[112, 101, 110] }, p := 1 + (k : Int), c := 10, k := 1, s := 0, b := 0, a := 0, r := 0 }
theorem pen_good {k : Nat} (hk : k < 40) : (pen k).good :=
  ⟨⟨by show (1 : Int) ≤ 1 + (k : Int); omega, by show (1 : Int) + (k : Int) ≤ 1000000; omega, by show (0 : Int) ≤ 10; decide, by show (10 : Int) ≤ 1000000000; decide, by show (1 : Int) ≤ 1; decide, by show (1 : Int) ≤ 1000; decide⟩, by show itemOk { cps := #[112, 101, 110] } = true; decide, A7.all (s := { cps := #[112, 101, 110] }) (by unfold A7; decide)⟩
theorem beg_turn {l : List Int} {m j : Nat} {ρ : List V} (hj : j < m) (hm : m ≤ 40) (I : Beg l m j ρ σ) :
    ∃ ρ' σ', exL (callFn T05 (d + 4) false) (callFn T05 (d + 4) true) false (match zBB.body with
      | [_, _, _, .for _ _ _ b, _, _, _, _, _, _, _, _, _, _, _, _, _, _, _] => b
      | _ => []) (ρ.set 3 (.int j)) σ = .ok (.next ρ') σ' ∧ Beg l m (j + 1) ρ' σ' := by
  cases I with
  | mk us hs x3 σ B hl hh ok oh =>
  have hj' : j < 40 := Nat.lt_of_lt_of_le hj hm
  have ld : ∀ x ∈ [pen j], x.good := fun x hx => by rw [List.mem_singleton.mp hx]; exact pen_good hj'
  have dd := b_doO (d := d) bookTab05 B (ls := [pen j]) (show 1 ≤ 1 by decide) (show 1 ≤ 20 by decide) ld (by rw [List.length_map, hl]; exact hj') (by rw [hh]; exact Nat.lt_trans hj' (by decide))
  refine ⟨_, _, s_exp (zAM rfl B.isInst (zAB (v := dO [pen j]) (e_tup (zAB rfl (zAB (zGZ (zAB (e_tup (zAB rfl (zAB (e_p2 rfl rfl rfl) rfl))) rfl)) rfl))) rfl) dd) s_nil, ?_⟩
  have B' := zCq (ls := [pen j]) B
  rw [show us.map Or.v ++ [(newOr [pen j]).v] = (us ++ [newOr [pen j]]).map Or.v by rw [List.map_append]; rfl] at B'
  refine .mk (us ++ [newOr [pen j]]) _ _ _ B' (by rw [List.length_append, hl]; rfl) (by rw [List.length_append, hh]; rfl) (fun u hu => ?_) fun x hx => ?_
  · rcases List.mem_append.mp hu with hu | hu
    · exact ok u hu
    · rw [List.mem_singleton.mp hu]; exact zFH (show 1 ≤ 20 by decide) fun x hx => (ld x hx).ok
  · rcases List.mem_append.mp hx with hx | hx
    · exact oh x hx
    · rw [List.mem_singleton.mp hx]; exact ⟨_, _, rfl⟩
theorem ne_empty {c : Cls} (hc : cls5 c = true) : ev2 .ne σ (.str (nm5 c)) (.str { cps := #[] }) = some (.bool true) := by
  cases c <;> first | rfl | cases hc
theorem eq_full {c : Cls} (hc : cls5 c = true) : c = .FullBook ∨ ev2 .eq σ (.str (nm5 c)) (.str { cps := #[70, 117, 108, 108, 66, 111, 111, 107] }) = some (.bool false) := by
  cases c <;> first | exact .inl rfl | exact .inr rfl | cases hc
theorem zDF {l : Ln} (h : l.ok) : l.fresh.charge = 0 := by
  show (((0 : Int) - 0) * l.c).fdiv l.k - 0 = 0
  rw [Int.sub_self, Int.zero_mul, Int.zero_fdiv]; rfl
theorem zEc : ∀ {ls : List Ln}, (∀ l ∈ ls, l.ok) → ((ls.map Ln.fresh).map Ln.charge).sum = 0
  | [], _ => rfl
  | l :: ls, h => by
    rw [List.map_cons, List.map_cons, List.sum_cons, zDF (h l List.mem_cons_self), zEc fun x hx => h x (List.mem_cons_of_mem _ hx)]; rfl
theorem new_owed {ls : List Ln} (h : ∀ l ∈ ls, l.ok) : (newOr ls).owed = 0 := by
  show ((ls.map Ln.fresh).map Ln.charge).sum - 0 = 0
  rw [zEc h]; rfl
noncomputable def full (l : Ln) : Ln := behindL .del l.fresh l.p
theorem zEb (l : Ln) : (full l).charge = (l.p * l.c).fdiv l.k := by
  show (((0 : Int) + l.p - 0) * l.c).fdiv l.k - 0 = _
  rw [Int.sub_zero, Int.sub_zero, Int.zero_add]
noncomputable def lastUp (ls : List Ln) (l : Ln) : Or := { lines := ls.map Ln.fresh ++ [full l], paid := 0, rows := [(sDel, (full l).charge - l.fresh.charge)] }
theorem up_last {ls : List Ln} {l : Ln} : upL .del (newOr (ls ++ [l])) ls.length l.fresh l.p = lastUp ls l := by
  unfold upL lastUp newOr
  have : (List.map Ln.fresh (ls ++ [l])).set ls.length (behindL .del l.fresh l.p) = ls.map Ln.fresh ++ [full l] := by
    rw [List.map_append, ← List.length_map (f := Ln.fresh) (as := ls), List.set_append_right _ _ (Nat.le_refl _), Nat.sub_self]; rfl
  rw [this]; rfl
theorem last_owed {ls : List Ln} {l : Ln} (h : ∀ x ∈ ls, x.ok) : (lastUp ls l).owed = (l.p * l.c).fdiv l.k := by
  show ((ls.map Ln.fresh ++ [full l]).map Ln.charge).sum - 0 = _
  rw [List.map_append, List.sum_append, zEc h, Int.sub_zero, Int.zero_add, List.map_cons, List.map_nil, List.sum_cons, List.sum_nil, Int.add_zero, zEb]
end
end Mine
end

/-! # L05g -/
section
set_option autoImplicit false
namespace Mine
open PySem
theorem lines_ne {ls : List Ln} : linesErr ls ≠ some .FullBook := fun h => by
  unfold linesErr at h
  split at h
  · obtain ⟨l, _, hl⟩ := List.exists_of_findSome?_eq_some h
    unfold lineErr at hl
    split at hl
    · split at hl <;> cases hl
    · cases hl
  · cases h
theorem full_inv {ls : List Ln} {m : Nat} (h : orderErr ls m = some .FullBook) : linesErr ls = none ∧ 40 ≤ m := by
  unfold orderErr at h
  cases hl : linesErr ls with
  | some c' => rw [hl] at h; cases h; exact absurd hl lines_ne
  | none =>
    rw [hl] at h
    have h : (if 40 ≤ m then some Cls.FullBook else none) = some .FullBook := h
    split at h
    · rename_i h4; exact ⟨rfl, h4⟩
    · cases h
theorem good_inv {ls : List Ln} {m : Nat} (h : orderErr ls m = none) : linesErr ls = none ∧ m < 40 := by
  unfold orderErr at h
  cases hl : linesErr ls with
  | some c' => rw [hl] at h; cases h
  | none =>
    rw [hl] at h
    have h : (if 40 ≤ m then some Cls.FullBook else none) = none := h
    split at h
    · cases h
    · rename_i h4; exact ⟨rfl, Nat.lt_of_not_le h4⟩
theorem zCo {α : Type} {l : List α} {k : Nat} (h : l.length = k + 1) : ∃ (i : List α) (x : α), l = i ++ [x] ∧ i.length = k := by
  have hne : l ≠ [] := fun e => by rw [e] at h; cases h
  refine ⟨l.dropLast, l.getLast hne, (List.dropLast_concat_getLast hne).symm, ?_⟩
  rw [List.length_dropLast, h]; rfl
section
variable {d : Nat} {σ σ' : Sto} {n4 n5 : Nat} {es hs : List V} {us : List Or} {ls : List Ln} {l : List Int} {m : Nat} {x3 : V}
structure At5 (σ : Sto) (us : List Or) (hs : List V) (ls : List Ln) (n4 n5 m : Nat) : Prop where
  B : BookIn σ 0 1 2 (us.map Or.v) hs
  lu : us.length = m
  lh : hs.length = m
  m4 : m ≤ 40
  ok : ∀ u ∈ us, u.ok
  oh : ∀ x ∈ hs, OrdH x
  g4 : σ[n4]? = some (.list (ls.map Ln.raw))
  g5 : σ[n5]? = some (.list (ls.map Ln.raw))
  far4 : 2 < n4
  far5 : n4 < n5
  ha : ∀ l ∈ ls, A7 l.item
theorem At5.asc (a : At5 σ us hs ls n4 n5 m) : ∀ l ∈ ls, asc l := fun l hm => (a.ha l hm).all
theorem At5.lv (a : At5 σ us hs ls n4 n5 m) : LV σ (ls.map Ln.raw) 1 (.ref n5) := .ref n5 a.g5 (by have := a.far4; have := a.far5; omega)
theorem zHd {σ : Sto} {d : Nat} : ∀ x ∈ ls.map Ln.raw, Has σ (d + 2) x := fun x hx => by
  obtain ⟨l, _, rfl⟩ := List.mem_map.mp hx
  exact ⟨_, rfl⟩
noncomputable def tail5 : List CS := zBB.body.drop 7
theorem law5_bad {c : Cls} (a : At5 σ us hs ls n4 n5 m) (hc : orderErr ls m = some c) : ∃ σ', exL (callFn T05 (d + 6) false) (callFn T05 (d + 6) true) false tail5 [.lst (iv l), .int m, .ref 0, x3, .ref n4, .ref n5, .undef, .undef, .undef, .undef, .undef] σ = .ok (.ret (.bool true)) σ' := by
  have hi := a.B.isInst
  have hcl := order_cls hc
  have hc' : orderErr ls (us.map Or.v).length = some c := by rw [List.length_map, a.lu]; exact hc
  have hd := b_doVX (d := d + 1) bookTab05 a.B a.lv a.asc hc'
  have du := d_due (d := d + 4) a.g4 a.ha m
  rw [hc] at du
  have fin : ∀ {σ' : Sto} {es hs : List V} {x6 x7 x8 x9 x10 : V} (B : BookIn σ' 0 1 2 es hs) (hl : es.length = m), exL (callFn T05 (d + 6) false) (callFn T05 (d + 6) true) false
      (.ret (.and (.call 101 [.callm 10 (.var 2) []]) (.p2 .eq (.callm 10 (.var 2) []) (.var 1))) :: zBB.body.drop 11) [.lst (iv l), .int m, .ref 0, x3, .ref n4, .ref n5, x6, x7, x8, x9, x10] σ' = .ok (.ret (.bool true)) σ' := fun {σ' es hs x6 x7 x8 x9 x10} B hl => by
    have eo : evE (callFn T05 (d + 6) false) false (.callm 10 (.var 2) []) [.lst (iv l), .int m, .ref 0, x3, .ref n4, .ref n5, x6, x7, x8, x9, x10] σ' = .ok (.int es.length) σ' := zAM rfl B.isInst rfl (zFQ (d := d + 5) bookTab05 B)
    refine s_ret (zBb (zAI (zAB eo rfl) (g_whole (d := d + 5) (k := 101) rfl _)) rfl (e_p2 eo rfl ?_))
    rw [hl, zBO, beq_self_eq_true]
  have pre : ∀ {r : R Fl}, exL (callFn T05 (d + 6) false) (callFn T05 (d + 6) true) false
      (.ite (.and (.p2 .eq (.var 7) (.lit (.str { cps := #[70, 117, 108, 108, 66, 111, 111, 107] }))) (.p1 .not (.call 113 [.var 2, .var 4]))) [.ret (.lit (.bool false))] [] :: .ret (.and (.call 101 [.callm 10 (.var 2) []]) (.p2 .eq (.callm 10 (.var 2) []) (.var 1))) :: zBB.body.drop 11)
      [.lst (iv l), .int m, .ref 0, x3, .ref n4, .ref n5, .str (nm5 c), .str (nm5 c), .undef, .undef, .undef] σ = r → exL (callFn T05 (d + 6) false) (callFn T05 (d + 6) true) false tail5 [.lst (iv l), .int m, .ref 0, x3, .ref n4, .ref n5, .undef, .undef, .undef, .undef, .undef] σ = r := fun kk =>
    s_asg (v := .str (nm5 c)) (zAI (zAB rfl (zAB (e_tup (zAB rfl (zAB rfl rfl))) rfl)) (d_triedX (d := d + 5) hi hcl hd rfl))
      (s_asg (v := .str (nm5 c)) (zAI rfl du) (s_f (zAC (e_p2 rfl rfl (ne_refs a.g5 a.g4 zHd))) (s_t (zAC (e_p2 rfl rfl (ne_empty hcl)))
        (s_f (zAC (zAh (e_p2 rfl rfl (zEU ⟨_, rfl⟩)) rfl (e_p1 (zAI (zAB rfl (zAB (e_tup (zAB rfl (zAB rfl rfl))) rfl)) (d_refused (d := d + 4) hi hcl hd rfl)) rfl))) kk))))
  rcases eq_full (σ := σ) hcl with rfl | hne
  · obtain ⟨hl, h4⟩ := full_inv hc
    have hm : m = 39 + 1 := Nat.le_antisymm a.m4 h4
    obtain ⟨us', u, eu, lu⟩ := zCo (a.lu.trans hm)
    obtain ⟨hs', x, eh, lh⟩ := zCo (a.lh.trans hm)
    obtain ⟨ys, w, rfl⟩ := a.oh x (by rw [eh]; exact List.mem_append_right _ (List.mem_singleton.mpr rfl))
    have B := a.B
    rw [eu, eh, List.map_append] at B
    have f4 := a.far4
    cases d_room (d := d) (ls := ls) (n := n4) B lu (by rw [lh]; decide) a.g4 (by omega) (by omega) a.ha hl with
    | mk σ' es' hs'' er B' hl' =>
    exact ⟨σ', pre (s_f (zAC (zBb (e_p2 rfl rfl (eq_name .FullBook)) rfl (e_p1 (zAI rfl er) rfl))) (fin B' (by rw [hl', hm])))⟩
  · exact ⟨σ, pre (s_f (zAC (e_and_f (e_p2 rfl rfl hne) rfl)) (fin a.B (by rw [List.length_map, a.lu])))⟩
end
end Mine
end

/-! # L05h -/
section
set_option autoImplicit false
namespace Mine
open PySem
section
variable {d : Nat} {σ σ' : Sto} {n4 n5 : Nat} {es hs : List V} {us : List Or} {ls : List Ln} {l : List Int} {m : Nat} {x3 : V}
theorem atI_at {α : Type} {xs : List α} {i : Nat} {x : α} (h : xs[i]? = some x) : atI xs (i : Int) = some x := by
  unfold atI
  rw [if_pos (zGX.mpr ⟨i, rfl, (List.getElem?_eq_some_iff.mp h).1⟩)]; exact h
theorem eq_sameE {v : V} (h : Has σ eqDepth v) : ev2 .eq σ v v = some (.bool true) := by
  show (eqV σ v v).map V.bool = _
  rw [zHN h]; rfl
theorem zCs {α : Type} {xs : List α} {x : α} : (xs ++ [x])[xs.length]? = some x := by
  rw [List.getElem?_append_right (Nat.le_refl _), Nat.sub_self]; rfl
noncomputable def env5 (l : List Int) (m : Nat) (x3 : V) (n4 n5 : Nat) (x6 x7 x8 x9 x10 : V) : List V := [.lst (iv l), .int m, .ref 0, x3, .ref n4, .ref n5, x6, x7, x8, x9, x10]
theorem BookIn.putO {σ : Sto} {b e h k : Nat} {x : O} {es hs : List V} (B : BookIn σ b e h es hs) (hb : k ≠ b) (he : k ≠ e) (hh : k ≠ h) : BookIn (σ.set k x) b e h es hs := ⟨zAL B.inst hb, zAL B.ent he, zAL B.his hh, B.ne⟩
theorem law5_end {ini : List Ln} {z : Ln} (B : BookIn σ 0 1 2 ((us ++ [newOr (ini ++ [z])]).map Or.v) hs) (hu : us.length = m) (ok : ∀ u ∈ us, u.ok) (okl : ∀ x ∈ ini ++ [z], x.ok) (h20 : (ini ++ [z]).length ≤ 20) (hh : hs.length < LIM)
    (g4 : σ[n4]? = some (.list ((ini ++ [z]).map Ln.raw))) (f4 : 2 < n4) {x6 x7 x8 x9 x10 : V} :
    ∃ σ', exL (callFn T05 (d + 6) false) (callFn T05 (d + 6) true) false (zBB.body.drop 14) (env5 l m x3 n4 n5 x6 x7 x8 x9 x10) σ = .ok (.ret (.bool true)) σ' := by
  have okz := okl z (List.mem_append_right _ (List.mem_singleton.mpr rfl))
  have hok : ∀ u ∈ us ++ [newOr (ini ++ [z])], u.ok := fun u hm => by
    rcases List.mem_append.mp hm with hm | hm
    · exact ok u hm
    · rw [List.mem_singleton.mp hm]; exact zFH h20 okl
  have um : (us ++ [newOr (ini ++ [z])])[m]? = some (newOr (ini ++ [z])) := by rw [← hu]; exact zCs
  have lm : (newOr (ini ++ [z])).lines[ini.length]? = some z.fresh := by
    show ((ini ++ [z]).map Ln.fresh)[ini.length]? = _
    rw [List.getElem?_map, zCs]; rfl
  have he : errL (us ++ [newOr (ini ++ [z])]) .del (m : Int) (ini.length : Int) z.p = none := by
    show errU .del (ini.length : Int) z.p (atI _ (m : Int)) = none
    rw [atI_at um]
    show errK .del z.p (atI _ (ini.length : Int)) = none
    rw [atI_at lm]
    show (if z.p < 1 then some Cls.NoNumber else if z.p > z.p - 0 + 0 then some .TooMuch else none) = none
    have := okz.p1
    rw [if_neg (by omega), if_neg (by omega)]
  have dd := b_doL (d := d) bookTab05 B hok he um lm (show 0 < LIM by decide) hh
  have B3 := ((B.push (.dict [((m : Int), (newOr (ini ++ [z])).v)])).setH (hs ++ [.tup [dL .del m ini.length z.p, .ref σ.length]])).setE (((us ++ [newOr (ini ++ [z])]).set m (upL .del (newOr (ini ++ [z])) ini.length z.fresh z.p)).map Or.v)
  have g4' : ((noted σ 2 hs (dL .del m ini.length z.p) [((m : Int), (newOr (ini ++ [z])).v)]).set 1 (.list (((us ++ [newOr (ini ++ [z])]).set m (upL .del (newOr (ini ++ [z])) ini.length z.fresh z.p)).map Or.v)))[n4]? = some (.list ((ini ++ [z]).map Ln.raw)) := zAL (zAL (zBJ g4) (by omega)) (by omega)
  have hset : (us ++ [newOr (ini ++ [z])]).set m (upL .del (newOr (ini ++ [z])) ini.length z.fresh z.p) = us ++ [lastUp ini z] := by
    rw [up_last, ← hu, List.set_append_right _ _ (Nat.le_refl _), Nat.sub_self]; rfl
  have chg : (behindL .del z.fresh z.p).charge - z.fresh.charge = (z.p * z.c).fdiv z.k := by
    show (full z).charge - _ = _
    rw [zEb, zDF okz, Int.sub_zero]
  rw [hset] at dd B3 g4'
  rw [chg] at dd
  generalize hσ3 : (noted σ 2 hs (dL .del m ini.length z.p) [((m : Int), (newOr (ini ++ [z])).v)]).set 1 (.list ((us ++ [lastUp ini z]).map Or.v)) = σ₃ at dd g4'
  have B3 : BookIn σ₃ 0 1 2 ((us ++ [lastUp ini z]).map Or.v) (hs ++ [.tup [dL .del m ini.length z.p, .ref σ.length]]) := hσ3 ▸ B3
  have u3 : ((us ++ [lastUp ini z]).map Or.v)[m]? = some (lastUp ini z).v := zEu (by rw [← hu]; exact zCs)
  have l3 : (lastUp ini z).lines.length < LIM := by
    show (ini.map Ln.fresh ++ [full z]).length < LIM
    rw [List.length_append, List.length_map]
    rw [List.length_append] at h20
    exact Nat.lt_of_le_of_lt h20 (by decide)
  have ok3 : ∀ x ∈ (lastUp ini z).lines, x.ok := fun x hx => by
    rcases List.mem_append.mp hx with hx | hx
    · obtain ⟨y, hy, rfl⟩ := List.mem_map.mp hx; exact (okl y (List.mem_append_left _ hy)).fresh
    · rw [List.mem_singleton.mp hx]; exact zAr okz.fresh
  have t3 := b_told (d := d + 4) bookTab05 rfl B3 u3 l3
  have o3 := b_owed (d := d + 3) bookTab05 B3 u3 l3 ok3
  rw [last_owed fun x hx => okl x (List.mem_append_left _ hx)] at o3
  have rz : ((ini ++ [z]).map Ln.raw)[ini.length]? = some z.raw := by rw [List.getElem?_map, zCs]; rfl
  have ez : ∀ {F : Calls} {σ : Sto} {x6 x9 x10 : V}, σ[n4]? = some (.list ((ini ++ [z]).map Ln.raw)) → evE F false (.p2 .index (.var 4) (.var 8)) (env5 l m x3 n4 n5 x6 x7 (.int ini.length) x9 x10) σ = .ok z.raw σ := fun hg => e_p2 rfl rfl (zAq _ hg rz)
  have len : ev2 .sub σ (.int ((ini ++ [z]).map Ln.raw).length) (.int 1) = some (.int ini.length) := by
    rw [ev2_sub, List.length_map, List.length_append]
    show some (V.int (((ini.length + 1 : Nat) : Int) - 1)) = _
    rw [Int.natCast_add, show ((1 : Nat) : Int) = 1 from rfl, Int.add_sub_cancel]
  refine ⟨σ₃, s_asg (v := .int ini.length) (e_p2 (e_p1 rfl (zAw σ g4)) rfl len) (s_asg (v := .int ((z.p * z.c).fdiv z.k)) (e_p2 (e_p2 (e_p2 (ez g4) rfl rfl) (e_p2 (ez g4) rfl rfl) (zBq σ _ _ (.inr (zGl okz)))) (e_p2 (ez g4) rfl rfl) (zAe σ _ _ (div_ok okz.k1 okz.k2)))
    (s_asg (zAM rfl B.isInst (zAB (v := dL .del m ini.length z.p) (e_tup (zAB rfl (zAB rfl (zAB rfl (zAB (e_p2 (ez g4) rfl rfl) rfl))))) rfl) dd)
    (s_asg (v := toldV (full z)) (e_p2 (zAM rfl B3.isInst (zAB rfl rfl) t3) rfl (zCt _ (i := ini.length) ?_))
    (s_ret (zBb (e_p2 rfl (zGZ (zAB (e_tup (zAB rfl (zAB rfl rfl))) rfl)) (z := .bool true) ?_) rfl (zBb (x := .bool true) ?_ rfl (e_p2 (zAM rfl B3.isInst (zAB rfl rfl) o3) rfl ?_)))))))⟩
  · show ((ini.map Ln.fresh ++ [full z]).map toldV)[ini.length]? = _
    rw [List.getElem?_map, ← List.length_map (f := Ln.fresh) (as := ini), zCs]; rfl
  · exact eq_sameE ⟨_, rfl⟩
  · refine e_p2 (x := .int (0 + z.p)) rfl (e_p2 (ez g4') rfl rfl) ?_
    rw [Int.zero_add]
    exact congrArg (fun b => some (V.bool b)) (beq_self_eq_true z.p)
  · rw [zBO, beq_self_eq_true]
theorem law5_good (a : At5 σ us hs ls n4 n5 m) (hc : orderErr ls m = none) : ∃ σ', exL (callFn T05 (d + 6) false) (callFn T05 (d + 6) true) false tail5 (env5 l m x3 n4 n5 .undef .undef .undef .undef .undef) σ = .ok (.ret (.bool true)) σ' := by
  obtain ⟨hl, hm⟩ := good_inv hc
  obtain ⟨l1, l20, okl⟩ := zBG hl
  have f4 := a.far4
  have f5 := a.far5
  have hc' : orderErr ls (us.map Or.v).length = none := by rw [List.length_map, a.lu]; exact hc
  have hd := b_doV (d := d + 1) bookTab05 a.B a.lv a.asc hc' (by rw [a.lh]; exact Nat.lt_trans hm (by decide))
  have B1 := zCq (ls := ls) a.B
  have g4 := zBm (es := us.map Or.v) (hs := hs) (ls := ls) a.g4 (e := 1) (h := 2) (by omega) (by omega)
  have g5 := zBm (es := us.map Or.v) (hs := hs) (ls := ls) a.g5 (e := 1) (h := 2) (by omega) (by omega)
  have hlh : (hs ++ [V.tup [dO ls, .ref (σ.set 1 (.list (us.map Or.v ++ [(newOr ls).v]))).length]]).length < LIM := by rw [List.length_append, a.lh]; exact Nat.lt_trans (Nat.succ_lt_succ hm) (by decide)
  generalize hs ++ [V.tup [dO ls, .ref (σ.set 1 (.list (us.map Or.v ++ [(newOr ls).v]))).length]] = hs1 at B1 hlh
  generalize ordered σ 1 2 (us.map Or.v) hs ls = σ₁ at hd B1 g4 g5
  rw [show us.map Or.v ++ [(newOr ls).v] = (us ++ [newOr ls]).map Or.v by rw [List.map_append]; rfl] at B1
  have du := d_due (d := d + 4) g4 a.ha m
  rw [hc] at du
  have hol : (((us ++ [newOr ls]).map Or.v).length : Int) = (m : Int) + 1 := by rw [List.length_map, List.length_append, a.lu]; rfl
  have hlim : (ls.map Ln.raw).length < LIM := by rw [List.length_map]; exact Nat.lt_of_le_of_lt l20 (by decide)
  have B2 := B1.putO (k := n5) (x := .list (ls.map Ln.raw ++ [.tup [.str { cps := #[99, 117, 112] }, .int 1, .int 1, .int 1]])) (by omega) (by omega) (by omega)
  have g4' : (σ₁.set n5 (.list (ls.map Ln.raw ++ [.tup [.str { cps := #[99, 117, 112] }, .int 1, .int 1, .int 1]])))[n4]? = some (.list (ls.map Ln.raw)) := zAL g4 (by omega)
  have um : ((us ++ [newOr ls]).map Or.v)[m]? = some (newOr ls).v := zEu (by rw [← a.lu]; exact zCs)
  have nl : (newOr ls).lines.length < LIM := by show (ls.map Ln.fresh).length < LIM; rw [List.length_map]; exact Nat.lt_of_le_of_lt l20 (by decide)
  have ow := b_owed (d := d + 3) bookTab05 B2 um nl (zFH l20 okl).ls
  rw [new_owed okl] at ow
  obtain ⟨ini, z, ez, -⟩ := zCo (l := ls) (k := ls.length - 1) (by omega)
  obtain ⟨σ', ee⟩ := law5_end (d := d) (l := l) (x3 := x3) (n5 := n5) (x6 := .lst []) (x7 := .str { cps := #[] }) (x8 := .undef) (x9 := .undef) (x10 := .undef) (ini := ini) (z := z) (by rw [← ez]; exact B2) a.lu a.ok (by rw [← ez]; exact okl) (by rw [← ez]; exact l20) hlh (by rw [← ez]; exact g4') f4
  refine ⟨σ', ?_⟩
  refine s_asg (v := .lst []) (zAI (zAB rfl (zAB (e_tup (zAB rfl (zAB rfl rfl))) rfl)) (d_tried (d := d + 5) a.B.isInst hd rfl)) ?_
  refine s_asg (v := .str { cps := #[] }) (zAI rfl du) (s_f (zAC (e_p2 rfl rfl (ne_refs g5 g4 zHd))) (s_f (zAC (e_p2 rfl rfl (zEU ⟨_, rfl⟩))) ?_))
  refine s_f (zAC (zAh (e_p2 rfl rfl (zEU ⟨_, rfl⟩)) rfl (zAh (x := .bool false) rfl rfl (e_p2 (zAM rfl B1.isInst rfl (zFQ (d := d + 5) bookTab05 B1)) (e_p2 rfl rfl rfl) (by rw [hol, ev2_ne, bne_self_eq_false]))))) ?_
  refine s_exp (zAp (x := .ref n5) rfl (by show (listR _).isSome = true; rw [g5]; rfl) (e_tup rfl) (zAi _ g5 hlim)) ?_
  refine s_f (zAC (zAh (x := .bool false) (e_p1 (zAI (zAB (zAM rfl B2.isInst (zAB rfl rfl) (b_told (d := d + 4) bookTab05 rfl B2 um nl)) (zAB rfl rfl)) (zEw (d := d + 4) g4' (Nat.le_trans l20 (by decide)))) rfl) rfl
    (zAh (x := .bool false) (e_p2 (zAM rfl B2.isInst (zAB rfl rfl) ow) rfl rfl) rfl (e_p2 (zAM rfl B2.isInst (zAB rfl rfl) (b_paid (d := d + 4) bookTab05 B2 um)) rfl rfl)))) ee
end
end Mine
end

/-! # L05i -/
section
set_option autoImplicit false
namespace Mine
open PySem
section
variable {d : Nat}
theorem many5 {σ : Sto} {j : Nat} (hj : j < 4) : ∃ m : Nat, m ≤ 40 ∧ ev2 .index σ (.lst [.int 40, .int 39, .int 40, .int 38]) (.int (j : Int)) = some (.int m) := by
  match j, hj with
  | 0, _ => exact ⟨40, by decide, rfl⟩
  | 1, _ => exact ⟨39, by decide, rfl⟩
  | 2, _ => exact ⟨40, by decide, rfl⟩
  | 3, _ => exact ⟨38, by decide, rfl⟩
theorem law05 (l : List Int) (hl : l.length ≤ 63) : ∃ σ', callFn T05 (d + 7) false 114 [.lst (iv l)] [] = .ok (.bool true) σ' := by
  have c0 : ∀ {x : V}, evE (callFn T05 (d + 6) false) false (.call 100 [.var 0, .lit (.int 0)]) [.lst (iv l), x, .undef, .undef, .undef, .undef, .undef, .undef, .undef, .undef, .undef] [] = .ok (.int (gI l 0)) [] := fun {x} => zAI rfl (zBk l 0)
  have pre : ∃ m : Nat, m ≤ 40 ∧ ∀ {r : R Fl}, exL (callFn T05 (d + 6) false) (callFn T05 (d + 6) true) false (zBB.body.drop 3) [.lst (iv l), .int m, .ref 0, .undef, .undef, .undef, .undef, .undef, .undef, .undef, .undef] (newBook []) = r →
      exL (callFn T05 (d + 6) false) (callFn T05 (d + 6) true) false zBB.body [.lst (iv l), .undef, .undef, .undef, .undef, .undef, .undef, .undef, .undef, .undef, .undef] [] = r := by
    obtain ⟨n4, hn4, hn4'⟩ := zBL (gI l 0) (m := 4) (by decide)
    have hn4 : (gI l 0).fmod 4 = (n4 : Int) := hn4
    have e1 : evE (callFn T05 (d + 6) false) false (.p2 .mod (.call 100 [.var 0, .lit (.int 0)]) (.lit (.int 4))) [.lst (iv l), .undef, .undef, .undef, .undef, .undef, .undef, .undef, .undef, .undef, .undef] [] = .ok (.int n4) [] := by
      rw [← hn4]; exact e_p2 c0 rfl (zAW _ _ 4 rfl)
    cases ht : (((gI l 0).fdiv 4).fmod 4 == 1) with
    | true =>
      obtain ⟨j, hj, hj'⟩ := zBL ((gI l 0).fdiv 16) (m := 4) (by decide)
      have hj : ((gI l 0).fdiv 16).fmod 4 = (j : Int) := hj
      obtain ⟨m, hm, em⟩ := many5 (σ := []) hj'
      refine ⟨m, hm, fun kk => s_asg e1 (s_t (zAC (t := true) (e_p2 (e_p2 (e_p2 c0 rfl (zAe _ _ 4 rfl)) rfl (zAW _ _ 4 rfl)) rfl (by rw [zBO, ht]))) (s_asg (v := .int m) (e_p2 (y := .int (j : Int)) rfl (by rw [← hj]; exact e_p2 (e_p2 c0 rfl (zAe _ _ 16 rfl)) rfl (zAW _ _ 4 rfl)) em) (s_asg (b_new (d := d + 5) bookTab05) kk)))⟩
    | false =>
      refine ⟨n4, Nat.le_trans (Nat.le_of_lt hn4') (by decide), fun kk => s_asg e1 (s_f (zAC (t := false) (e_p2 (e_p2 (e_p2 c0 rfl (zAe _ _ 4 rfl)) rfl (zAW _ _ 4 rfl)) rfl (by rw [zBO, ht]))) (s_asg (b_new (d := d + 5) bookTab05) kk))⟩
  obtain ⟨m, hm, pre⟩ := pre
  obtain ⟨ρ', σ₁, ef, I⟩ := zEe (F := callFn T05 (d + 6) false) (Fq := callFn T05 (d + 6) true) (i := 3) (k := .range1) (src := [.var 1]) (body := match zBB.body with
      | [_, _, _, .for _ _ _ b, _, _, _, _, _, _, _, _, _, _, _, _, _, _, _] => b
      | _ => []) (ρ := [.lst (iv l), .int m, .ref 0, .undef, .undef, .undef, .undef, .undef, .undef, .undef, .undef]) (vs := [.int m]) (σ := newBook []) (σ₁ := newBook []) (it := .now (rangeL 0 m)) (xs := rangeL 0 m)
    (Beg l m) rfl (zAj _ (by show m ≤ LIM; exact Nat.le_trans hm (by decide))) (fun _ _ _ _ => .inl rfl) (.mk [] [] _ _ newBook_in rfl rfl (fun u hu => nomatch hu) fun x hx => nomatch hx) fun j x ρ σ' hx I => by
      obtain ⟨rfl, hj⟩ := zBz hx
      exact beg_turn (d := d + 2) hj hm I
  rw [zDr] at I
  cases I with
  | mk us hs x3 _ B lu lh ok oh =>
  obtain ⟨ls, more, -, ha, e4⟩ := d_lines (d := d + 3) (σ := σ₁) l
  have k4 : ∀ (i : Nat) (o : O), σ₁[i]? = some o → (σ₁ ++ O.list (ls.map Ln.raw) :: more)[i]? = some o := fun i o h => by
    rw [List.getElem?_append_left (List.getElem?_eq_some_iff.mp h).1]; exact h
  have B4 := B.keep k4
  have g4 : (σ₁ ++ O.list (ls.map Ln.raw) :: more)[σ₁.length]? = some (.list (ls.map Ln.raw)) := zGe
  have f4 : 2 < σ₁.length := (List.getElem?_eq_some_iff.mp B.his).1
  have f5 : σ₁.length < (σ₁ ++ O.list (ls.map Ln.raw) :: more).length := (List.getElem?_eq_some_iff.mp g4).1
  generalize σ₁ ++ O.list (ls.map Ln.raw) :: more = σ₂ at e4 B4 g4 f5
  have tl : ev1 .toList σ₂ (.ref σ₁.length) = some (.lst (ls.map Ln.raw)) := LV.list (e := σ₁.length + 1) (.ref _ g4 (by omega))
  have a : At5 (σ₂ ++ [.list (ls.map Ln.raw)]) us hs ls σ₁.length σ₂.length m := ⟨B4.push _, lu, lh, hm, ok, oh, zBJ g4, zBK, f4, f5, ha⟩
  have fin : ∃ σ', exL (callFn T05 (d + 6) false) (callFn T05 (d + 6) true) false tail5 (env5 l m x3 σ₁.length σ₂.length .undef .undef .undef .undef .undef) (σ₂ ++ [.list (ls.map Ln.raw)]) = .ok (.ret (.bool true)) σ' := by
    cases hc : orderErr ls m with
    | none => exact law5_good a hc
    | some c => exact law5_bad a hc
  obtain ⟨σ', fin⟩ := fin
  have et' : evE (callFn T05 (d + 6) false) false (.trk (.p1 .toList (.var 4))) [.lst (iv l), .int m, .ref 0, x3, .ref σ₁.length, .undef, .undef, .undef, .undef, .undef, .undef] σ₂ = .ok (.ref σ₂.length) (σ₂ ++ [.list (ls.map Ln.raw)]) := by
    rw [x_trk, e_p1 (z := .lst (ls.map Ln.raw)) rfl tl]; rfl
  exact ⟨σ', zAH (fn := zBB) rfl rfl (pre (st_nx ef (s_asg (zAI rfl e4) (s_f (zAC (e_p1 (zAI rfl (d_parts (d := d + 4) B4.isInst g4)) rfl)) (s_asg et' fin)))))⟩
end
end Mine
end

/-! # CutG -/
section
set_option autoImplicit false
open PySem PySem.W PyProof.Rows
namespace Mine
noncomputable def pRows : List (Str × Int) := [("order", 2), ("deliver", 4), ("back", 4), ("swap", 4), ("credit", 4), ("pay", 3), ("refund", 3), ("move", 4)]
noncomputable def pEsT (P : Params) (ts : List (Nat × Nat)) : List DictEntry := (pRows.zip ts).map fun q => ⟨PyData.keyHash P q.1.1, .str q.1.1 q.2.1, .int q.1.2 q.2.2⟩
noncomputable def pObjT (P : Params) (ts : List (Nat × Nat)) : Obj := { cls := .type "dict", data := .dict (pEsT P ts).toArray 8 }
noncomputable def linedRows : List Str := ["deliver", "back", "swap", "credit"]
noncomputable def linedObj (ts : List Nat) : Obj := { cls := .type "tuple", data := .seq ((linedRows.zip ts).map fun q => Value.str q.1 q.2).toArray }
noncomputable def mroAt (h : Heap) (x : Str) : Option (Addr × List Value) := match h.nsMap mainGlobals x with
  | some (.ref a) => (h.get? a).bind fun o => match o.data with
    | .cls cd => if h.isNs cd.ns && (h.nsMap cd.ns "__class__").isNone then some (a, cd.mro) else none
    | _ => none
  | _ => none
theorem zGv {p q : Program} {loose : List Str} {Xt : Shared → Bool} {α : Type} {Yf : Shared → α} {Ya : World → α} {N : Nat} {m₀ : Nat} {ann : Option Value} {n M : Nat} {sc : World → OsState → Shared} {th : Thread}
    (e : opening p = plainProg p.main.scope.names) (hN : Nat.ble 600 N = true) (f : ∀ s, fenceModules? p s = some s)
    (size : ∀ w : World, ((boot_heap w.params).isNs mainGlobals && (Array.mk [] : Array GenState).size == 0, (boot_heap w.params).objs.size, (boot_heap w.params).nsMap mainGlobals "__annotations__") = (true, m₀, ann))
    (run : ∀ (w : World) (os : OsState) (r : Shared), topRun treeTable p w m₀ ann M (sc w os) th = some r → topRun treeTable p w m₀ ann (n + M) ⟨boot_heap w.params, Array.mk [], boot_drawn, boot_toks, os⟩ (topStub p) = some r) (le : Nat.ble (n + M) N = true)
    (looks : ∀ w : World, (fun os => (topRun treeTable p w m₀ ann M (sc w os) th).map fun s₁ => ((staticsOk (importedModules p.main.body) (boot_heap w.params) s₁.heap && namesBound p s₁.heap && gensDone s₁ && laidKept (boot_heap w.params) s₁.heap),
        openSeen q loose (importedModules p.main.body) Xt true s₁, Yf s₁)) = fun _ => some (true, openGood q loose, Ya w)) : LeftO p q loose Xt Yf Ya N := fun w => by
  obtain ⟨⟨h, gs, d, k, os⟩, e1, e'⟩ := Option.map_eq_some_iff.mp (boot_open e hN f w)
  obtain ⟨rfl, rfl, rfl, rfl⟩ : h = boot_heap w.params ∧ gs = Array.mk [] ∧ d = boot_drawn ∧ k = boot_toks := by simpa using e'
  obtain ⟨z1, z2, z3⟩ : _ ∧ _ ∧ _ := by simpa only [Prod.mk.injEq] using size w
  obtain ⟨s₁, r0, l0⟩ := Option.map_eq_some_iff.mp (congrFun (looks w) os)
  obtain ⟨l1, l2, l3⟩ : _ ∧ _ ∧ _ := by simpa only [Prod.mk.injEq] using l0
  have r := topRun_mono (N - (n + M)) _ _ _ _ (run w os s₁ r0)
  rw [show n + M + (N - (n + M)) = N by have := Nat.le_of_ble_eq_true le; omega] at r
  have t : topFrom treeTable p w N ⟨boot_heap w.params, Array.mk [], boot_drawn, boot_toks, os⟩ = some s₁ := by
    unfold topFrom
    dsimp only
    rw [z1, z2, z3, r]
    show (match staticsOk (importedModules p.main.body) (boot_heap w.params) s₁.heap && namesBound p s₁.heap && gensDone s₁ && laidKept (boot_heap w.params) s₁.heap with | true => _ | false => _) = _
    rw [l1]
  unfold openEnds
  rw [e1]
  show (topFrom treeTable p w N ⟨boot_heap w.params, Array.mk [], boot_drawn, boot_toks, os⟩).map _ = _
  rw [t]
  show some (openSeen q loose (importedModules p.main.body) Xt true s₁, Yf s₁) = _
  rw [l2, l3]
section
variable {p : Program} {w : World} {m₀ : Nat} {ann : Option Value} {env : Env} {q : Pos} {b : List Stmt}
theorem cut_first {n₀ nb n N i : Nat} {s₀ s' r : Shared} {c : Code} {pos pb p' : Pos} (hc : c = .body b env)
    (pre : (topGo treeTable p w m₀ ann n₀ s₀ (topStub p)).map (·.2) = some ⟨denote treeTable c, c, pos, [topFrame q]⟩)
    (blk : ((topGo treeTable p w m₀ ann n₀ s₀ (topStub p)).bind fun x => segRun treeTable p w m₀ ann 1 nb x.1 (blockOf b env c pos [topFrame q])).map (fun y => (y.1, y.2.2)) = some (.next, c, pb))
    (g : (((topGo treeTable p w m₀ ann n₀ s₀ (topStub p)).bind fun x => segRun treeTable p w m₀ ann 1 nb x.1 (blockOf b env c pos [topFrame q])).bind fun y => segRun treeTable p w m₀ ann 1 n y.2.1 (piecesOf ((b.take i).drop 0) env c pb [topFrame q])) = some (.next, s', c, p'))
    (k : topRun treeTable p w m₀ ann N s' (restOf (b.drop i) env c p' [topFrame q]) = some r) : topRun treeTable p w m₀ ann (n₀ + (nb + (n + N))) s₀ (topStub p) = some r := by
  obtain ⟨⟨sa, ta⟩, a1, a2⟩ := Option.map_eq_some_iff.mp pre
  have a2 : ta = _ := a2
  subst a2
  rw [a1] at blk g
  obtain ⟨⟨f1, sb, cb, pb'⟩, b1, b2⟩ := Option.map_eq_some_iff.mp blk
  cases b2
  have b1 : segRun treeTable p w m₀ ann 1 nb sa (blockOf b env c pos [topFrame q]) = some (.next, sb, c, pb) := b1
  have g : ((segRun treeTable p w m₀ ann 1 nb sa (blockOf b env c pos [topFrame q])).bind fun y => segRun treeTable p w m₀ ann 1 n y.2.1 (piecesOf ((b.take i).drop 0) env c pb [topFrame q])) = _ := g
  rw [b1] at g
  have g : segRun treeTable p w m₀ ann 1 n sb (piecesOf (b.take i) env c pb [topFrame q]) = some (.next, s', c, p') := g
  refine go_top a1 ?_
  have := piece_block b1 (k := by
    have := piece_app g k
    rwa [List.take_append_drop] at this)
  rwa [hc] at this ⊢
theorem zDh {n N i j : Nat} {s s' r : Shared} {c : Code} {pos p' : Pos} (hij : i ≤ j) (g : segRun treeTable p w m₀ ann 1 n s (piecesOf ((b.take j).drop i) env c pos [topFrame q]) = some (.next, s', c, p'))
    (k : topRun treeTable p w m₀ ann N s' (restOf (b.drop j) env c p' [topFrame q]) = some r) : topRun treeTable p w m₀ ann (n + N) s (restOf (b.drop i) env c pos [topFrame q]) = some r := by
  have e : b.drop i = (b.take j).drop i ++ b.drop j := by
    rw [List.drop_take]
    have : b.drop j = (b.drop i).drop (j - i) := by rw [List.drop_drop]; congr 1; omega
    rw [this, List.take_append_drop]
  rw [e]
  exact piece_app g k
end
end Mine
end

/-! # LinkB -/
section
set_option autoImplicit false
namespace Mine
open PySem PySem.W PyProof.Rows
inductive Says (P : Params) (pa la : Addr) (pt : List (Nat × Nat)) (lt : List Nat) (ms : List (Str × Addr × List Value)) (h : Heap) : Prop
  | mk (mg : Str → Option Value) (N : h.Ns mainGlobals mg) (e1 : mg ("PARTS" : Str) = some (.ref pa)) (e2 : h.get? pa = some (pObjT P pt)) (e3 : mg ("LINED" : Str) = some (.ref la)) (e4 : h.get? la = some (linedObj lt))
      (e5 : ∀ q ∈ ms, mg q.1 = some (.ref q.2.1) ∧ ∃ o cd, h.get? q.2.1 = some o ∧ o.data = .cls cd ∧ cd.mro = q.2.2 ∧ ∃ m, h.Ns cd.ns m ∧ m "__class__" = none)
theorem mroAt_some {h : Heap} {x : Str} {a : Addr} {m : List Value} (e : mroAt h x = some (a, m)) : h.nsMap mainGlobals x = some (.ref a) ∧ ∃ o cd, h.get? a = some o ∧ o.data = .cls cd ∧ cd.mro = m ∧ ∃ m, h.Ns cd.ns m ∧ m "__class__" = none := by
  unfold mroAt at e
  split at e
  · rename_i a' ha
    obtain ⟨o, ho, e⟩ := Option.bind_eq_some_iff.mp e
    split at e
    · rename_i cd hd
      split at e
      · rename_i hn
        cases e
        rw [Bool.and_eq_true] at hn
        exact ⟨ha, o, cd, ho, hd, rfl, _, .of_isNs hn.1, Option.isNone_iff_eq_none.mp hn.2⟩
      · cases e
    · cases e
  · cases e
theorem says_of {P : Params} {pa la : Addr} {pt : List (Nat × Nat)} {lt : List Nat} {ms : List (Str × Addr × List Value)} {h : Heap}
    (e : (h.isNs mainGlobals, h.nsMap mainGlobals "PARTS", h.get? pa, h.nsMap mainGlobals "LINED", h.get? la, ms.map fun q => mroAt h q.1) = (true, some (.ref pa), some (pObjT P pt), some (.ref la), some (linedObj lt), ms.map fun q => some q.2)) : Says P pa la pt lt ms h := by
  simp only [Prod.mk.injEq] at e
  obtain ⟨h0, h1, h2, h3, h4, h5⟩ := e
  refine .mk _ (.of_isNs h0) h1 h2 h3 h4 fun q hq => ?_
  obtain ⟨x, a, m⟩ := q
  exact mroAt_some (List.map_inj_left.mp h5 _ hq)
theorem Says.keeps {P : Params} {pa la : Addr} {pt : List (Nat × Nat)} {lt : List Nat} {ms : List (Str × Addr × List Value)} {h h' : Heap} (s : Says P pa la pt lt ms h) (k : ∀ b o, h.get? b = some o → h'.get? b = some o) : Says P pa la pt lt ms h' := by
  obtain ⟨mg, ⟨o, es, ep, a, b⟩, e1, e2, e3, e4, e5⟩ := s
  exact .mk mg ⟨o, es, ep, k _ _ a, b⟩ e1 (k _ _ e2) e3 (k _ _ e4) fun q hq => by
    obtain ⟨h1, o, cd, h2, h3, h4, m, hN, hm⟩ := e5 q hq
    exact ⟨h1, o, cd, k _ _ h2, h3, h4, m, hN.keeps k, hm⟩
theorem zGo (P : Params) (x : Str) (ts : List (Nat × Nat)) (hl : ts.length = 8) : ∃ t, ((pEsT P ts).find? fun e => Value.isStrOf x e.key).map (·.val) = ((partsTable.find? fun p => p.1 == x).map fun p => Value.int p.2 t) := by
  have key : ∀ (l : List ((Str × Int) × (Nat × Nat))), ∃ t, ((l.map fun q => (⟨PyData.keyHash P q.1.1, .str q.1.1 q.2.1, .int q.1.2 q.2.2⟩ : DictEntry)).find? fun e => Value.isStrOf x e.key).map (·.val) = (((l.map fun q => q.1).find? fun p => p.1 == x).map fun p => Value.int p.2 t) := by
    intro l
    induction l with
    | nil => exact ⟨0, rfl⟩
    | cons q l ih =>
      rw [List.map_cons, List.map_cons, List.find?_cons, List.find?_cons]
      have hq : Value.isStrOf x (Value.str q.1.1 q.2.1) = (q.1.1 == x) := rfl
      simp only [hq]
      cases h : (q.1.1 == x) with
      | true => exact ⟨q.2.2, rfl⟩
      | false => exact ih
  have := key (pRows.zip ts)
  rwa [show ((pRows.zip ts).map fun q => q.1) = partsTable from List.map_fst_zip (by rw [hl]; decide)] at this
theorem partsT_at {S : Stat} {dA : Addr} {ts : List (Nat × Nat)} (hl : ts.length = 8) (hp : S.parts = .ref dA) (hd : (dA == sysModules) = false) (ho : S.hb.get? dA = some (pObjT S.w.params ts)) : PartsAt S S.hb := fun _ => by
  refine ⟨dA, fun x => ((pEsT S.w.params ts).find? fun e => Value.isStrOf x e.key).map (·.val), hp, hd, ⟨_, (pEsT S.w.params ts).toArray, 8, ho, ⟨rfl, rfl, rfl⟩, rfl, fun e he => ?_, fun k => ?_⟩, fun x => zGo _ x ts hl⟩
  · have he : e ∈ pEsT S.w.params ts := by simpa using he
    obtain ⟨q, _, rfl⟩ := List.mem_map.mp he
    exact ⟨_, beq_self_eq_true _, rfl⟩
  · show ((pEsT S.w.params ts).toArray.find? _).map _ = _
    rw [List.find?_toArray]; rfl
section
variable {p : Program} {loose : List Str} {mean : ExcName → Option Value} {mg mb : Str → Option Value} {S : Stat}
theorem zFa {h : Heap} {a : Addr} {c0 : Value} {dd : Option Addr} {cd : ClassData} {sl : Array (Option Value)} {mA : Str → Option Value} {tl : List Value} (hA : h.get? a = some { cls := c0, dict := dd, data := .cls cd, slots := sl }) (hN : h.Ns cd.ns mA) (hq : ∀ n ∈ quietNames, mA n = none) (hm : ∃ m, h.Ns cd.ns m ∧ m "__class__" = none) (T : TailC h tl) : TailC h (.ref a :: tl) := by
  obtain ⟨m, h1, h2⟩ := hm
  obtain rfl : m = mA := by rw [h1.eq_nsMap, hN.eq_nsMap]
  refine .own hA hN (fun n hn => ?_) T
  simp only [clsNames, List.mem_cons, List.not_mem_nil, or_false] at hn
  rcases hn with rfl | rfl | rfl
  · exact hq _ (.tail _ (.head _))
  · exact hq _ (.tail _ (.tail _ (.head _)))
  · exact h2
theorem excCl_of (T : Top p loose mean mg mb S.hb) {x : Str} {c : Cls} {a : Addr} {bm : List Value} (hs : specOf p x = some ("ValueError.__new__", bmV)) (hg : mg x = some (.ref a)) (hm : ∃ o cd, S.hb.get? a = some o ∧ o.data = .cls cd ∧ cd.mro = .ref a :: bm ∧ ∃ m, S.hb.Ns cd.ns m ∧ m "__class__" = none)
    (ht : bm = bmV ∨ ∃ b, bm = .ref b :: bmV ∧ ∃ o cd, S.hb.get? b = some o ∧ o.data = .cls cd ∧ ∃ m, S.hb.Ns cd.ns m ∧ m "__class__" = none)
    (hcl : S.cl c = .ref a) (hkn : ∀ d ∈ S.kn, (Value.ref a :: bm).contains (S.cl d) = c.sub d) : ExcCl S c := by
  obtain ⟨C, O, _⟩ := T.ownAt hs
  obtain ⟨_, bm'', N', nm', q', bs', hdct', sn', sub', ab', col', dd', k0', k1', k2', k3', k5', mN', hC', hN', hi', OTQ⟩ := id O
  obtain ⟨hb, bm', N, nm, q, bs, hdct, sn, sub, ab, col, dd, k0, k1, k2, k3, k5, mN, hC, hN, hi, OT⟩ := O.own
  rw [hg] at hb
  cases hb
  obtain ⟨o, cd, h1, h2, h3, m, h4, h5⟩ := hm
  rw [hC] at h1
  cases h1
  cases h2
  obtain rfl : bm' = bm := by injection h3
  refine .mk a bm' N nm q bs hdct sn sub ab col dd k0 k1 k2 k3 k5 mN hcl hC hN hi OT hkn
    ?_
  rw [hC] at hC'
  cases hC'
  refine zFa hC hN' hi' ⟨m, h4, h5⟩ ?_
  rcases ht with rfl | ⟨b, rfl, o, cd, g1, g2, g3⟩
  · exact .base
  · cases OTQ with
    | own hA hM hq _ =>
      rw [hA] at g1
      cases g1
      cases g2
      exact zFa hA hM hq g3 .base
theorem lined_at {la : Addr} {lt : List Nat} (hl : lt.length = 4) (ho : S.hb.get? la = some (linedObj lt)) : VR S [] [] S.hb (.tup [.str { cps := #[100, 101, 108, 105, 118, 101, 114] }, .str { cps := #[98, 97, 99, 107] }, .str { cps := #[115, 119, 97, 112] }, .str { cps := #[99, 114, 101, 100, 105, 116] }]) (.ref la) := by
  match lt, hl with
  | [a, b, c, d], _ =>
    rw [VR]
    refine ⟨la, _, _, rfl, ⟨(fun h => nomatch h), (fun h => nomatch h)⟩, ho, ?_, by decide⟩
    have s : ∀ {x : Str} {t : Nat}, x.length ≤ LIM → PyData.strOk x = true → VR S [] [] S.hb (.str x) (.str x t) := fun h1 h2 => by rw [VR]; exact ⟨⟨_, rfl⟩, h1, h2⟩
    show VRs S [] [] S.hb _ [_, _, _, _]
    simp only [VRs]
    exact ⟨s (by decide) (by decide +kernel), s (by decide) (by decide +kernel), s (by decide) (by decide +kernel), s (by decide) (by decide +kernel), trivial⟩
end
end Mine
end

/-! # LinkC -/
section
set_option autoImplicit false
namespace Mine
open PySem PySem.W PyProof.Rows
noncomputable def linedV : V := .tup [.str { cps := #[100, 101, 108, 105, 118, 101, 114] }, .str { cps := #[98, 97, 99, 107] }, .str { cps := #[115, 119, 97, 112] }, .str { cps := #[99, 114, 101, 100, 105, 116] }]
inductive ConstOk (v : Program) (x : Str) : V → Prop
  | int (i : Int) (h : valOf v x = some (.int i)) : ConstOk v x (.int i)
  | str (y : Str) (h : valOf v x = some (.str y)) (hl : y.length ≤ LIM) (hk : PyData.strOk y = true) : ConstOk v x (.str y)
structure Ex where
  name : Str
  c : Cls
  a : Addr
  bm : List Value
structure BookLaw (v : Program) (loose : List Str) (C : Ctx) (tM tF : List (Nat × Fn)) (base : List (Str × V)) (ex : List Ex) (cl : Cls → Value) (kn : List Cls) (cb : ClsRec) : Prop where
  k1 : tabF C (recsOf v) = some tF
  k2 : fnsOk C (recsOf v) = true
  k3 : ((recsOf v).map (·.name)).Nodup
  k4 : freeOk v loose C = true
  hc : C.consts = base ++ [(("PARTS" : Str), .parts), (("LINED" : Str), linedV)]
  hb : ∀ q ∈ base, ConstOk v q.1 q.2
  hx : C.excs = ex.map fun q => (q.name, q.c)
  hs : ∀ q ∈ ex, specOf v q.name = some ("ValueError.__new__", bmV)
  hcl : ∀ q ∈ ex, cl q.c = .ref q.a
  hbm : ∀ q ∈ ex, q.bm = bmV ∨ ∃ q' ∈ ex, q.bm = .ref q'.a :: bmV
  hkn : ∀ q ∈ ex, q.c ∈ kn ∧ ∀ d ∈ kn, (Value.ref q.a :: q.bm).contains (cl d) = q.c.sub d
  m1 : cb ∈ plainsOf v loose
  m2 : cb.name = ("Book" : Str)
  m3 : methsOk C cb.meths = true
  m4 : (cb.meths.map (·.name)).Nodup
  m5 : tabM C cb.meths = some tM
  m6 : C.meths.lookup ("__init__" : Str) = some 0
  m7 : attrName 0 ∈ cb.withCmp.quiet ∧ attrName 1 ∈ cb.withCmp.quiet
  at0 : C.attrs = attrNames
  cln : Clean C
theorem book_walk {v p : Program} {loose : List Str} {w : World} {s₁ : Shared} {mean : ExcName → Option Value} {mg mb : Str → Option Value} {C : Ctx} {tM tF : List (Nat × Fn)} {base : List (Str × V)} {ex : List Ex} {cl : Cls → Value} {kn : List Cls} {cb : ClsRec} {pa la : Addr} {pt : List (Nat × Nat)} {lt : List Nat} {a fa : Addr} {ns : List Int} {d k : Nat}
    (BL : BookLaw v loose C tM tF base ex cl kn cb) (T : Top v loose mean mg mb s₁.heap) (TE : TopE v loose mg s₁.heap) (Y : Says w.params pa la pt lt (ex.map fun q => (q.name, q.a, .ref q.a :: q.bm)) s₁.heap) (hpt : pt.length = 8) (hlt : lt.length = 4) (hd : (pa == sysModules) = false)
    (hk : C.fns.find? (fun r => r.2 == k) = some (("law" : Str), k)) (hmg : mg ("law" : Str) = some (.ref fa)) (W : Well w.params s₁.heap (.ref a) (ofPy (.list (ns.map PyData.int)))) (hlen : ns.length ≤ 63) (hd1 : d ≤ 100)
    (hres : ∃ σ', callFn (fun k => (tM ++ tF).lookup k) d false k [.lst (ns.map V.int)] [] = .ok (.bool true) σ') :
    codeAny (model p w) callerA (.call (.ref fa) ⟨[.ref a], []⟩) (fun r s' => r = .ok (.ret (.bool true)) ∧ (∀ b o, s₁.heap.get? b = some o → s'.heap.get? b = some o) ∧ s'.os = s₁.os ∧ s'.gens = s₁.gens) s₁ := by
  obtain ⟨mg', N', e1, e2, e3, e4, e5⟩ := Y
  obtain rfl : mg' = mg := by rw [N'.eq_nsMap, T.g.eq_nsMap]
  obtain ⟨Cb, N, mN, hCb, P⟩ := TE cb BL.m1
  rw [BL.m2] at hCb
  have key : ∀ S : Stat, S.hb = s₁.heap → S.fn = fnAddr C mg' mN → S.hasParts = true → S.parts = .ref pa → S.prog = p → S.w = w → S.cl = cl → S.kn = kn → S.book = Cb → codeAny (model S.prog S.w) callerA (.call (.ref (S.fn k)) ⟨[.ref a], []⟩) (fun r s' => r = .ok (.ret (.bool true)) ∧ (∀ b o, s₁.heap.get? b = some o → s'.heap.get? b = some o) ∧ s'.os = s₁.os ∧ s'.gens = s₁.gens) s₁ := by
    intro S h1 h2 h3 h4 h5 h6 h7 h8 h9
    have TS : Top v loose mean mg' mb S.hb := h1 ▸ T
    have PS : PlainAt S.hb cb.withCmp Cb N mN := h1 ▸ P
    have hc : ∀ x u, C.consts.lookup x = some u → ∃ w, mg' x = some w ∧ VR S [] [] S.hb u w := fun x u h => by
      have hm := zAG h
      rw [BL.hc] at hm
      rcases List.mem_append.mp hm with hm | hm
      · have := BL.hb _ hm
        cases this with
        | int i hv =>
          obtain ⟨u, e, r⟩ := T.const _ _ hv
          have := r S.hb
          cases this
          exact ⟨_, e, by rw [VR]; exact ⟨_, rfl⟩⟩
        | str y hv hl hk =>
          obtain ⟨u, e, r⟩ := T.const _ _ hv
          have := r S.hb
          cases this
          exact ⟨_, e, by rw [VR]; exact ⟨⟨_, rfl⟩, hl, hk⟩⟩
      · rcases List.mem_cons.mp hm with e | hm
        · cases e; exact ⟨_, e1, by rw [VR]; exact ⟨h3, h4.symm⟩⟩
        · cases List.mem_singleton.mp hm
          exact ⟨_, e3, lined_at hlt (h1 ▸ e4)⟩
    have hex : ∀ x c, C.excs.lookup x = some c → ∃ q ∈ ex, q.name = x ∧ q.c = c := fun x c h => by
      have hm := zAG h
      rw [BL.hx] at hm
      obtain ⟨q, hq, e⟩ := List.mem_map.mp hm
      cases e
      exact ⟨q, hq, rfl, rfl⟩
    have fa0 : ∀ k fn, (tM ++ tF).lookup k = some fn → FnAt S C k fn := fun k fn h => by
      rcases List.mem_append.mp (zEW h) with hm | hm
      · exact methAt_of PS BL.m3 h2 BL.m4 BL.m5 k fn hm
      · exact fnAt_of TS BL.k2 h2 BL.k3 BL.k1 k fn hm
    have fs := facts_of (tab := tM ++ tF) TS BL.k2 h2 BL.k4 hc (fun _ => by rw [h9]; exact hCb) (.inr ⟨BL.at0, book_of PS h9 BL.m3 h2 BL.m6 BL.m7⟩)
      (fun x c h => by obtain ⟨q, hq, rfl, rfl⟩ := hex x c h; rw [h7, BL.hcl q hq]; exact .inl (e5 _ (List.mem_map_of_mem hq)).1)
      (fun x c h => by
        obtain ⟨q, hq, rfl, rfl⟩ := hex x c h
        have h5 := e5 _ (List.mem_map_of_mem hq)
        refine ⟨by rw [h8]; exact (BL.hkn q hq).1, fun _ => excCl_of TS (BL.hs q hq) h5.1 (h1 ▸ h5.2)
          ((BL.hbm q hq).imp id fun ⟨q', hq', e⟩ => ⟨q'.a, e, by obtain ⟨_, o, cd, g1, g2, _, g3⟩ := e5 _ (List.mem_map_of_mem hq'); exact ⟨o, cd, h1 ▸ g1, g2, h1 ▸ g3⟩⟩)
          (by rw [h7]; exact BL.hcl q hq) (by rw [h7, h8]; exact (BL.hkn q hq).2)⟩)
      (partsT_at hpt h4 hd (by rw [h1, h6]; exact e2)) (by rw [h4]; simp) fa0
    exact law_call fs BL.cln fa0 h1 hd1 (VR_script (P := w.params) (h1 ▸ W) (by simp only [LIM]; omega)) hres
  have := key ⟨p, w, s₁.heap, cl, Cb, .ref pa, true, fnAddr C mg' mN, kn⟩ rfl rfl rfl rfl rfl rfl rfl rfl rfl
  have ha : fnAddr C mg' mN k = fa := by unfold fnAddr; rw [hk]; simp only [hmg, refOf]
  simp only [ha] at this
  exact this
end Mine
end

/-! # Cut05 -/
section
open PySem PySem.W PyProof.Rows
set_option Elab.async false
set_option maxRecDepth 100000
set_option autoImplicit false
namespace Mine
noncomputable def pw05 : Program := PySem.Challenge.pw_uf040020_05
noncomputable def topS (i : Nat) : Stmt := (pw05.main.body)[i]?.getD (.Pass ⟨0,0,0,0⟩)
noncomputable def methS (i j : Nat) : Stmt := match topS i with
  | .ClassDef _ _ _ b _ _ _ _ _ _ _ => b[j]?.getD (.Pass ⟨0,0,0,0⟩)
  | s => s
noncomputable def sParams : Stmt → Arguments
  | .FunctionDef _ a _ _ _ _ _ _ _ _ => a
  | _ => ⟨[],[],none,[],[],none,[]⟩
noncomputable def sBody : Stmt → List Stmt
  | .FunctionDef _ _ b _ _ _ _ _ _ _ => b
  | _ => []
noncomputable def sScope : Stmt → Scope
  | .FunctionDef _ _ _ _ _ _ sc _ _ _ => sc
  | _ => pw05.main.scope
noncomputable def ky (P : Params) (c : Array Nat) (t : Nat) (v : Value) : DictEntry := ⟨PyData.keyHash P ⟨c⟩,.str ⟨c⟩ t,v⟩
noncomputable def fo (c : Value) (a b : Array Nat) (S : Stmt) (g : Addr) (pm cd : Value) : Obj := { cls := c,dict := none,data := .func { name := ⟨a⟩,qualname := ⟨b⟩,params := sParams S,body := .stmts (sBody S),scope := sScope S,globals := g,closure := [],defaults := .none,kwdefaults := .none,doc := .none,pyModule := pm,annotations := none,code := cd,closureTuple := .none,builtins := 0 },slots := #[] }
noncomputable def ob (c : Value) (d : Data) : Obj := { cls := c,dict := none,data := d,slots := #[] }
noncomputable def o05_3_0 (P : Params) : Obj := { cls := (.type "dict"),dict := none,data := (.dict #[(ky P #[95,95,110,97,109,101,95,95] 165 (.str ⟨#[111,114,100,101,114,102,108,111,119,46,101,114,114,111,114,115]⟩ 194)),(ky P #[95,95,100,111,99,95,95] 166 .none),(ky P #[95,95,112,97,99,107,97,103,101,95,95] 167 .none),(ky P #[95,95,108,111,97,100,101,114,95,95] 168 (.builtin "__main__.__loader__#opaque")),(ky P #[95,95,115,112,101,99,95,95] 169 .none),(ky P #[95,95,97,110,110,111,116,97,116,105,111,110,115,95,95] 170 (.ref 6)),(ky P #[95,95,98,117,105,108,116,105,110,115,95,95] 171 (.ref 4)),(ky P #[95,95,102,105,108,101,95,95] 173 (.str ⟨#[47,99,108,97,105,109,47,99,117,116,46,112,121]⟩ 172)),(ky P #[95,95,99,97,99,104,101,100,95,95] 174 .none),(ky P #[95,119,97,108,108] 193 (.ref 21)),(ky P #[70,108,111,119,69,114,114,111,114] 213 (.ref 31)),(ky P #[78,111,68,101,101,100] 229 (.ref 44)),(ky P #[78,111,76,105,110,101,115] 245 (.ref 56))] 13),slots := #[] }
noncomputable def o05_12_0 (P : Params) : Obj := { cls := .none,dict := none,data := (.fields #[(.int (1) 0),(.int (0) 0),(.ref 20),(.int (5) 0),(.int (0) 0),(.ref 27),(.int (7) 0),(.int (0) 0),(.ref 40),(.int (9) 0),(.int (0) 0),(.ref 52)]),slots := #[] }
noncomputable def zCc (P : Params) : Obj := { cls := (.type "code"),dict := none,data := (.fields #[(.str ⟨#[60,109,111,100,117,108,101,62]⟩ 182),(.str ⟨#[60,109,111,100,117,108,101,62]⟩ 183),(.str ⟨#[47,99,108,97,105,109,47,99,117,116,46,112,121]⟩ 184),(.int (1) 0),(.int (0) 0),(.int (0) 0),(.int (0) 0),(.int (0) 0),(.ref 11),(.bool false),(.int (181) 0),(.ref 12),.none,.none,.none,.none,(.int (185) 0),(.int (1) 0),(.str ⟨#[47,99,108,97,105,109,47,99,117,116,46,112,121]⟩ 186)]),slots := #[] }
noncomputable def zCb (P : Params) : Obj := { cls := (.type "frame"),dict := none,data := .plain,slots := #[(some (.ref 13)),(some (.ref 3)),(some (.ref 3)),none,(some (.str ⟨#[95,95,109,97,105,110,95,95]⟩ 164)),none,(some (.ref 0))] }
noncomputable def zCa (P : Params) : Obj := ob (.type "tuple") (.seq #[(.str ⟨#[107]⟩ 190)] 0)
noncomputable def zCZ (P : Params) : Obj := fo .none #[95,119,97,108,108] #[95,119,97,108,108] (topS 0) 0 .none .none
noncomputable def zCY (P : Params) : Obj := { cls := (.type "code"),dict := none,data := (.fields #[(.str ⟨#[95,119,97,108,108]⟩ 187),(.str ⟨#[95,119,97,108,108]⟩ 188),(.str ⟨#[47,99,108,97,105,109,47,99,117,116,46,112,121]⟩ 189),(.int (1) 0),(.int (1) 0),(.int (0) 0),(.int (0) 0),(.int (3) 0),(.ref 15),(.bool true),(.int (181) 0),(.ref 16),.none,(.ref 17),(.ref 18),(.ref 19),(.int (191) 0),(.int (1) 0),(.str ⟨#[47,99,108,97,105,109,47,99,117,116,46,112,121]⟩ 192)]),slots := #[] }
noncomputable def zCX (P : Params) : Obj := fo (.type "function") #[95,119,97,108,108] #[95,119,97,108,108] (topS 0) 3 (.str ⟨#[95,95,109,97,105,110,95,95]⟩ 164) (.ref 20)
noncomputable def zCW (P : Params) : Obj := ob (.type "tuple") (.seq #[(.type "ValueError")] 0)
noncomputable def zAD (P : Params) : Obj := ob (.type "builtin_function_or_method") (.fields #[(.builtin "type.__prepare__"),(.type "type")])
noncomputable def zCV (P : Params) : Obj := { cls := (.type "dict"),dict := none,data := (.dict #[(ky P #[95,95,109,111,100,117,108,101,95,95] 203 (.str ⟨#[111,114,100,101,114,102,108,111,119,46,101,114,114,111,114,115]⟩ 194)),(ky P #[95,95,113,117,97,108,110,97,109,101,95,95] 205 (.str ⟨#[70,108,111,119,69,114,114,111,114]⟩ 204)),(ky P #[95,95,102,105,114,115,116,108,105,110,101,110,111,95,95] 207 (.int (5) 206)),(ky P #[95,95,115,116,97,116,105,99,95,97,116,116,114,105,98,117,116,101,115,95,95] 208 (.ref 29))] 4),slots := #[] }
noncomputable def zCU (P : Params) : Obj := { cls := (.type "code"),dict := none,data := (.fields #[(.str ⟨#[70,108,111,119,69,114,114,111,114]⟩ 198),(.str ⟨#[70,108,111,119,69,114,114,111,114]⟩ 199),(.str ⟨#[47,99,108,97,105,109,47,99,117,116,46,112,121]⟩ 200),(.int (5) 0),(.int (0) 0),(.int (0) 0),(.int (0) 0),(.int (0) 0),(.ref 25),(.bool false),(.int (181) 0),(.ref 26),.none,.none,.none,.none,(.int (201) 0),(.int (5) 0),(.str ⟨#[47,99,108,97,105,109,47,99,117,116,46,112,121]⟩ 202)]),slots := #[] }
noncomputable def zCT (P : Params) : Obj := { cls := (.type "frame"),dict := none,data := .plain,slots := #[(some (.ref 27)),(some (.ref 3)),(some (.ref 24)),none,(some (.str ⟨#[111,114,100,101,114,102,108,111,119,46,101,114,114,111,114,115]⟩ 194)),none,(some (.ref 0))] }
noncomputable def zCS (P : Params) : Obj := { cls := (.type "dict"),dict := none,data := (.dict #[(ky P #[95,95,109,111,100,117,108,101,95,95] 203 (.str ⟨#[111,114,100,101,114,102,108,111,119,46,101,114,114,111,114,115]⟩ 194)),(ky P #[95,95,102,105,114,115,116,108,105,110,101,110,111,95,95] 207 (.int (5) 206)),(ky P #[95,95,115,116,97,116,105,99,95,97,116,116,114,105,98,117,116,101,115,95,95] 208 (.ref 29)),(ky P #[95,95,119,101,97,107,114,101,102,95,95] 210 (.ref 32)),(ky P #[95,95,100,111,99,95,95] 211 .none)] 3),slots := #[] }
noncomputable def o05_31_0 (P : Params) : Obj := { cls := (.type "type"),dict := none,data := (.cls { name := ⟨#[70,108,111,119,69,114,114,111,114]⟩,bases := [(.type "ValueError")],mro := [(.ref 31),(.type "ValueError"),(.type "Exception"),(.type "BaseException"),(.type "object")],ns := 30,qualname := ⟨#[70,108,111,119,69,114,114,111,114]⟩,hasDict := true,slotNames := [],subclasses := [(.ref 44),(.ref 56)],abstract := false,collection := none,hasDel := false }),slots := #[(some (.ref 22)),none,(some (.str ⟨#[70,108,111,119,69,114,114,111,114]⟩ 196)),(some (.str ⟨#[70,108,111,119,69,114,114,111,114]⟩ 204)),(some (.builtin "ValueError.__new__")),(some (.bool true))] }
noncomputable def zCR (P : Params) : Obj := ob (.type "getset_descriptor") (.fields #[(.str ⟨#[95,95,119,101,97,107,114,101,102,95,95]⟩ 209),(.ref 31),(.builtin "ExceptionGroup.__weakref__"),.none])
noncomputable def zCQ (P : Params) : Obj := ob (.type "super") (.fields #[(.ref 31),(.ref 31),(.ref 31)])
noncomputable def zCP (P : Params) : Obj := ob (.type "builtin_function_or_method") (.fields #[(.builtin "object.__init_subclass__"),(.ref 31)])
noncomputable def zAF (P : Params) : Obj := ob (.type "tuple") (.seq #[(.ref 31)] 0)
noncomputable def zCO (P : Params) : Obj := { cls := (.type "dict"),dict := none,data := (.dict #[(ky P #[95,95,109,111,100,117,108,101,95,95] 221 (.str ⟨#[111,114,100,101,114,102,108,111,119,46,101,114,114,111,114,115]⟩ 194)),(ky P #[95,95,113,117,97,108,110,97,109,101,95,95] 223 (.str ⟨#[78,111,68,101,101,100]⟩ 222)),(ky P #[95,95,102,105,114,115,116,108,105,110,101,110,111,95,95] 225 (.int (7) 224)),(ky P #[95,95,115,116,97,116,105,99,95,97,116,116,114,105,98,117,116,101,115,95,95] 226 (.ref 42))] 4),slots := #[] }
noncomputable def zCN (P : Params) : Obj := { cls := (.type "code"),dict := none,data := (.fields #[(.str ⟨#[78,111,68,101,101,100]⟩ 216),(.str ⟨#[78,111,68,101,101,100]⟩ 217),(.str ⟨#[47,99,108,97,105,109,47,99,117,116,46,112,121]⟩ 218),(.int (7) 0),(.int (0) 0),(.int (0) 0),(.int (0) 0),(.int (0) 0),(.ref 38),(.bool false),(.int (181) 0),(.ref 39),.none,.none,.none,.none,(.int (219) 0),(.int (7) 0),(.str ⟨#[47,99,108,97,105,109,47,99,117,116,46,112,121]⟩ 220)]),slots := #[] }
noncomputable def zCM (P : Params) : Obj := { cls := (.type "frame"),dict := none,data := .plain,slots := #[(some (.ref 40)),(some (.ref 3)),(some (.ref 37)),none,(some (.str ⟨#[111,114,100,101,114,102,108,111,119,46,101,114,114,111,114,115]⟩ 194)),none,(some (.ref 0))] }
noncomputable def zCL (P : Params) : Obj := { cls := (.type "dict"),dict := none,data := (.dict #[(ky P #[95,95,109,111,100,117,108,101,95,95] 221 (.str ⟨#[111,114,100,101,114,102,108,111,119,46,101,114,114,111,114,115]⟩ 194)),(ky P #[95,95,102,105,114,115,116,108,105,110,101,110,111,95,95] 225 (.int (7) 224)),(ky P #[95,95,115,116,97,116,105,99,95,97,116,116,114,105,98,117,116,101,115,95,95] 226 (.ref 42)),(ky P #[95,95,100,111,99,95,95] 227 .none)] 2),slots := #[] }
noncomputable def zCK (P : Params) : Obj := { cls := (.type "type"),dict := none,data := (.cls { name := ⟨#[78,111,68,101,101,100]⟩,bases := [(.ref 31)],mro := [(.ref 44),(.ref 31),(.type "ValueError"),(.type "Exception"),(.type "BaseException"),(.type "object")],ns := 43,qualname := ⟨#[78,111,68,101,101,100]⟩,hasDict := true,slotNames := [],subclasses := [],abstract := false,collection := none,hasDel := false }),slots := #[(some (.ref 35)),none,(some (.str ⟨#[78,111,68,101,101,100]⟩ 214)),(some (.str ⟨#[78,111,68,101,101,100]⟩ 222)),(some (.builtin "ValueError.__new__")),(some (.bool true))] }
noncomputable def zCJ (P : Params) : Obj := ob (.type "super") (.fields #[(.ref 44),(.ref 44),(.ref 44)])
noncomputable def zCI (P : Params) : Obj := ob (.type "builtin_function_or_method") (.fields #[(.builtin "object.__init_subclass__"),(.ref 44)])
noncomputable def zCH (P : Params) : Obj := { cls := (.type "dict"),dict := none,data := (.dict #[(ky P #[95,95,109,111,100,117,108,101,95,95] 237 (.str ⟨#[111,114,100,101,114,102,108,111,119,46,101,114,114,111,114,115]⟩ 194)),(ky P #[95,95,113,117,97,108,110,97,109,101,95,95] 239 (.str ⟨#[78,111,76,105,110,101,115]⟩ 238)),(ky P #[95,95,102,105,114,115,116,108,105,110,101,110,111,95,95] 241 (.int (9) 240)),(ky P #[95,95,115,116,97,116,105,99,95,97,116,116,114,105,98,117,116,101,115,95,95] 242 (.ref 54))] 4),slots := #[] }
noncomputable def zCG (P : Params) : Obj := { cls := (.type "code"),dict := none,data := (.fields #[(.str ⟨#[78,111,76,105,110,101,115]⟩ 232),(.str ⟨#[78,111,76,105,110,101,115]⟩ 233),(.str ⟨#[47,99,108,97,105,109,47,99,117,116,46,112,121]⟩ 234),(.int (9) 0),(.int (0) 0),(.int (0) 0),(.int (0) 0),(.int (0) 0),(.ref 50),(.bool false),(.int (181) 0),(.ref 51),.none,.none,.none,.none,(.int (235) 0),(.int (9) 0),(.str ⟨#[47,99,108,97,105,109,47,99,117,116,46,112,121]⟩ 236)]),slots := #[] }
noncomputable def zCF (P : Params) : Obj := { cls := (.type "frame"),dict := none,data := .plain,slots := #[(some (.ref 52)),(some (.ref 3)),(some (.ref 49)),none,(some (.str ⟨#[111,114,100,101,114,102,108,111,119,46,101,114,114,111,114,115]⟩ 194)),none,(some (.ref 0))] }
noncomputable def zCE (P : Params) : Obj := { cls := (.type "dict"),dict := none,data := (.dict #[(ky P #[95,95,109,111,100,117,108,101,95,95] 237 (.str ⟨#[111,114,100,101,114,102,108,111,119,46,101,114,114,111,114,115]⟩ 194)),(ky P #[95,95,102,105,114,115,116,108,105,110,101,110,111,95,95] 241 (.int (9) 240)),(ky P #[95,95,115,116,97,116,105,99,95,97,116,116,114,105,98,117,116,101,115,95,95] 242 (.ref 54)),(ky P #[95,95,100,111,99,95,95] 243 .none)] 2),slots := #[] }
noncomputable def zCD (P : Params) : Obj := { cls := (.type "type"),dict := none,data := (.cls { name := ⟨#[78,111,76,105,110,101,115]⟩,bases := [(.ref 31)],mro := [(.ref 56),(.ref 31),(.type "ValueError"),(.type "Exception"),(.type "BaseException"),(.type "object")],ns := 55,qualname := ⟨#[78,111,76,105,110,101,115]⟩,hasDict := true,slotNames := [],subclasses := [],abstract := false,collection := none,hasDel := false }),slots := #[(some (.ref 47)),none,(some (.str ⟨#[78,111,76,105,110,101,115]⟩ 230)),(some (.str ⟨#[78,111,76,105,110,101,115]⟩ 238)),(some (.builtin "ValueError.__new__")),(some (.bool true))] }
noncomputable def zCC (P : Params) : Obj := ob (.type "super") (.fields #[(.ref 56),(.ref 56),(.ref 56)])
noncomputable def zCB (P : Params) : Obj := ob (.type "builtin_function_or_method") (.fields #[(.builtin "object.__init_subclass__"),(.ref 56)])
noncomputable def h05_0 (P : Params) : Heap := ⟨⟨[boot_o_0 P,boot_o_1 P,boot_o_2 P,o05_3_0 P,boot_o_4 P,boot_o_5 P,boot_o_6 P,boot_o_7 P,boot_o_8 P,boot_o_9 P,boot_o_10 P,boot_o_7 P,o05_12_0 P,zCc P,zCb P,boot_o_7 P,boot_o_8 P,zCa P,boot_o_7 P,zCZ P,zCY P,zCX P,zCW P,zAD P,zCV P,boot_o_7 P,boot_o_8 P,zCU P,zCT P,boot_o_7 P,zCS P,o05_31_0 P,zCR P,zCQ P,zCP P,zAF P,zAD P,zCO P,boot_o_7 P,boot_o_8 P,zCN P,zCM P,boot_o_7 P,zCL P,zCK P,zCJ P,zCI P,zAF P,zAD P,zCH P,boot_o_7 P,boot_o_8 P,zCG P,zCF P,boot_o_7 P,zCE P,zCD P,zCC P,zCB P]⟩,{ registered := [],finalised := [],alive := [],known := 0,ids := [],orphanDicts := [],counting := false,cnt := #[],zero := [],soft := 0,below := false,collecting := false }⟩
noncomputable def s05_0 (w : World) (os : OsState) : Shared := ⟨h05_0 w.params,#[],⟨0,0,0,0⟩,246,os⟩
noncomputable def o05_3_1 (P : Params) : Obj := { cls := (.type "dict"),dict := none,data := (.dict #[(ky P #[95,95,110,97,109,101,95,95] 165 (.str ⟨#[111,114,100,101,114,102,108,111,119,46,101,114,114,111,114,115]⟩ 194)),(ky P #[95,95,100,111,99,95,95] 166 .none),(ky P #[95,95,112,97,99,107,97,103,101,95,95] 167 .none),(ky P #[95,95,108,111,97,100,101,114,95,95] 168 (.builtin "__main__.__loader__#opaque")),(ky P #[95,95,115,112,101,99,95,95] 169 .none),(ky P #[95,95,97,110,110,111,116,97,116,105,111,110,115,95,95] 170 (.ref 6)),(ky P #[95,95,98,117,105,108,116,105,110,115,95,95] 171 (.ref 4)),(ky P #[95,95,102,105,108,101,95,95] 173 (.str ⟨#[47,99,108,97,105,109,47,99,117,116,46,112,121]⟩ 172)),(ky P #[95,95,99,97,99,104,101,100,95,95] 174 .none),(ky P #[95,119,97,108,108] 193 (.ref 21)),(ky P #[70,108,111,119,69,114,114,111,114] 213 (.ref 31)),(ky P #[78,111,68,101,101,100] 229 (.ref 44)),(ky P #[78,111,76,105,110,101,115] 245 (.ref 56)),(ky P #[78,111,73,116,101,109] 261 (.ref 68)),(ky P #[78,111,78,117,109,98,101,114] 277 (.ref 80)),(ky P #[70,117,108,108,66,111,111,107] 293 (.ref 92)),(ky P #[78,111,79,114,100,101,114] 309 (.ref 104))] 17),slots := #[] }
noncomputable def o05_12_1 (P : Params) : Obj := { cls := .none,dict := none,data := (.fields #[(.int (1) 0),(.int (0) 0),(.ref 20),(.int (5) 0),(.int (0) 0),(.ref 27),(.int (7) 0),(.int (0) 0),(.ref 40),(.int (9) 0),(.int (0) 0),(.ref 52),(.int (11) 0),(.int (0) 0),(.ref 64),(.int (13) 0),(.int (0) 0),(.ref 76),(.int (15) 0),(.int (0) 0),(.ref 88),(.int (17) 0),(.int (0) 0),(.ref 100)]),slots := #[] }
noncomputable def o05_31_1 (P : Params) : Obj := { cls := (.type "type"),dict := none,data := (.cls { name := ⟨#[70,108,111,119,69,114,114,111,114]⟩,bases := [(.type "ValueError")],mro := [(.ref 31),(.type "ValueError"),(.type "Exception"),(.type "BaseException"),(.type "object")],ns := 30,qualname := ⟨#[70,108,111,119,69,114,114,111,114]⟩,hasDict := true,slotNames := [],subclasses := [(.ref 44),(.ref 56),(.ref 68),(.ref 80),(.ref 92),(.ref 104)],abstract := false,collection := none,hasDel := false }),slots := #[(some (.ref 22)),none,(some (.str ⟨#[70,108,111,119,69,114,114,111,114]⟩ 196)),(some (.str ⟨#[70,108,111,119,69,114,114,111,114]⟩ 204)),(some (.builtin "ValueError.__new__")),(some (.bool true))] }
noncomputable def zDe (P : Params) : Obj := { cls := (.type "dict"),dict := none,data := (.dict #[(ky P #[95,95,109,111,100,117,108,101,95,95] 253 (.str ⟨#[111,114,100,101,114,102,108,111,119,46,101,114,114,111,114,115]⟩ 194)),(ky P #[95,95,113,117,97,108,110,97,109,101,95,95] 255 (.str ⟨#[78,111,73,116,101,109]⟩ 254)),(ky P #[95,95,102,105,114,115,116,108,105,110,101,110,111,95,95] 257 (.int (11) 256)),(ky P #[95,95,115,116,97,116,105,99,95,97,116,116,114,105,98,117,116,101,115,95,95] 258 (.ref 66))] 4),slots := #[] }
noncomputable def zDd (P : Params) : Obj := { cls := (.type "code"),dict := none,data := (.fields #[(.str ⟨#[78,111,73,116,101,109]⟩ 248),(.str ⟨#[78,111,73,116,101,109]⟩ 249),(.str ⟨#[47,99,108,97,105,109,47,99,117,116,46,112,121]⟩ 250),(.int (11) 0),(.int (0) 0),(.int (0) 0),(.int (0) 0),(.int (0) 0),(.ref 62),(.bool false),(.int (181) 0),(.ref 63),.none,.none,.none,.none,(.int (251) 0),(.int (11) 0),(.str ⟨#[47,99,108,97,105,109,47,99,117,116,46,112,121]⟩ 252)]),slots := #[] }
noncomputable def zDc (P : Params) : Obj := { cls := (.type "frame"),dict := none,data := .plain,slots := #[(some (.ref 64)),(some (.ref 3)),(some (.ref 61)),none,(some (.str ⟨#[111,114,100,101,114,102,108,111,119,46,101,114,114,111,114,115]⟩ 194)),none,(some (.ref 0))] }
noncomputable def zDb (P : Params) : Obj := { cls := (.type "dict"),dict := none,data := (.dict #[(ky P #[95,95,109,111,100,117,108,101,95,95] 253 (.str ⟨#[111,114,100,101,114,102,108,111,119,46,101,114,114,111,114,115]⟩ 194)),(ky P #[95,95,102,105,114,115,116,108,105,110,101,110,111,95,95] 257 (.int (11) 256)),(ky P #[95,95,115,116,97,116,105,99,95,97,116,116,114,105,98,117,116,101,115,95,95] 258 (.ref 66)),(ky P #[95,95,100,111,99,95,95] 259 .none)] 2),slots := #[] }
noncomputable def zDa (P : Params) : Obj := { cls := (.type "type"),dict := none,data := (.cls { name := ⟨#[78,111,73,116,101,109]⟩,bases := [(.ref 31)],mro := [(.ref 68),(.ref 31),(.type "ValueError"),(.type "Exception"),(.type "BaseException"),(.type "object")],ns := 67,qualname := ⟨#[78,111,73,116,101,109]⟩,hasDict := true,slotNames := [],subclasses := [],abstract := false,collection := none,hasDel := false }),slots := #[(some (.ref 59)),none,(some (.str ⟨#[78,111,73,116,101,109]⟩ 246)),(some (.str ⟨#[78,111,73,116,101,109]⟩ 254)),(some (.builtin "ValueError.__new__")),(some (.bool true))] }
noncomputable def zDZ (P : Params) : Obj := ob (.type "super") (.fields #[(.ref 68),(.ref 68),(.ref 68)])
noncomputable def zDY (P : Params) : Obj := ob (.type "builtin_function_or_method") (.fields #[(.builtin "object.__init_subclass__"),(.ref 68)])
noncomputable def zDX (P : Params) : Obj := { cls := (.type "dict"),dict := none,data := (.dict #[(ky P #[95,95,109,111,100,117,108,101,95,95] 269 (.str ⟨#[111,114,100,101,114,102,108,111,119,46,101,114,114,111,114,115]⟩ 194)),(ky P #[95,95,113,117,97,108,110,97,109,101,95,95] 271 (.str ⟨#[78,111,78,117,109,98,101,114]⟩ 270)),(ky P #[95,95,102,105,114,115,116,108,105,110,101,110,111,95,95] 273 (.int (13) 272)),(ky P #[95,95,115,116,97,116,105,99,95,97,116,116,114,105,98,117,116,101,115,95,95] 274 (.ref 78))] 4),slots := #[] }
noncomputable def zDW (P : Params) : Obj := { cls := (.type "code"),dict := none,data := (.fields #[(.str ⟨#[78,111,78,117,109,98,101,114]⟩ 264),(.str ⟨#[78,111,78,117,109,98,101,114]⟩ 265),(.str ⟨#[47,99,108,97,105,109,47,99,117,116,46,112,121]⟩ 266),(.int (13) 0),(.int (0) 0),(.int (0) 0),(.int (0) 0),(.int (0) 0),(.ref 74),(.bool false),(.int (181) 0),(.ref 75),.none,.none,.none,.none,(.int (267) 0),(.int (13) 0),(.str ⟨#[47,99,108,97,105,109,47,99,117,116,46,112,121]⟩ 268)]),slots := #[] }
noncomputable def zDV (P : Params) : Obj := { cls := (.type "frame"),dict := none,data := .plain,slots := #[(some (.ref 76)),(some (.ref 3)),(some (.ref 73)),none,(some (.str ⟨#[111,114,100,101,114,102,108,111,119,46,101,114,114,111,114,115]⟩ 194)),none,(some (.ref 0))] }
noncomputable def zDU (P : Params) : Obj := { cls := (.type "dict"),dict := none,data := (.dict #[(ky P #[95,95,109,111,100,117,108,101,95,95] 269 (.str ⟨#[111,114,100,101,114,102,108,111,119,46,101,114,114,111,114,115]⟩ 194)),(ky P #[95,95,102,105,114,115,116,108,105,110,101,110,111,95,95] 273 (.int (13) 272)),(ky P #[95,95,115,116,97,116,105,99,95,97,116,116,114,105,98,117,116,101,115,95,95] 274 (.ref 78)),(ky P #[95,95,100,111,99,95,95] 275 .none)] 2),slots := #[] }
noncomputable def zDT (P : Params) : Obj := { cls := (.type "type"),dict := none,data := (.cls { name := ⟨#[78,111,78,117,109,98,101,114]⟩,bases := [(.ref 31)],mro := [(.ref 80),(.ref 31),(.type "ValueError"),(.type "Exception"),(.type "BaseException"),(.type "object")],ns := 79,qualname := ⟨#[78,111,78,117,109,98,101,114]⟩,hasDict := true,slotNames := [],subclasses := [],abstract := false,collection := none,hasDel := false }),slots := #[(some (.ref 71)),none,(some (.str ⟨#[78,111,78,117,109,98,101,114]⟩ 262)),(some (.str ⟨#[78,111,78,117,109,98,101,114]⟩ 270)),(some (.builtin "ValueError.__new__")),(some (.bool true))] }
noncomputable def zDS (P : Params) : Obj := ob (.type "super") (.fields #[(.ref 80),(.ref 80),(.ref 80)])
noncomputable def zDR (P : Params) : Obj := ob (.type "builtin_function_or_method") (.fields #[(.builtin "object.__init_subclass__"),(.ref 80)])
noncomputable def zDQ (P : Params) : Obj := { cls := (.type "dict"),dict := none,data := (.dict #[(ky P #[95,95,109,111,100,117,108,101,95,95] 285 (.str ⟨#[111,114,100,101,114,102,108,111,119,46,101,114,114,111,114,115]⟩ 194)),(ky P #[95,95,113,117,97,108,110,97,109,101,95,95] 287 (.str ⟨#[70,117,108,108,66,111,111,107]⟩ 286)),(ky P #[95,95,102,105,114,115,116,108,105,110,101,110,111,95,95] 289 (.int (15) 288)),(ky P #[95,95,115,116,97,116,105,99,95,97,116,116,114,105,98,117,116,101,115,95,95] 290 (.ref 90))] 4),slots := #[] }
noncomputable def zDP (P : Params) : Obj := { cls := (.type "code"),dict := none,data := (.fields #[(.str ⟨#[70,117,108,108,66,111,111,107]⟩ 280),(.str ⟨#[70,117,108,108,66,111,111,107]⟩ 281),(.str ⟨#[47,99,108,97,105,109,47,99,117,116,46,112,121]⟩ 282),(.int (15) 0),(.int (0) 0),(.int (0) 0),(.int (0) 0),(.int (0) 0),(.ref 86),(.bool false),(.int (181) 0),(.ref 87),.none,.none,.none,.none,(.int (283) 0),(.int (15) 0),(.str ⟨#[47,99,108,97,105,109,47,99,117,116,46,112,121]⟩ 284)]),slots := #[] }
noncomputable def zDO (P : Params) : Obj := { cls := (.type "frame"),dict := none,data := .plain,slots := #[(some (.ref 88)),(some (.ref 3)),(some (.ref 85)),none,(some (.str ⟨#[111,114,100,101,114,102,108,111,119,46,101,114,114,111,114,115]⟩ 194)),none,(some (.ref 0))] }
noncomputable def zDN (P : Params) : Obj := { cls := (.type "dict"),dict := none,data := (.dict #[(ky P #[95,95,109,111,100,117,108,101,95,95] 285 (.str ⟨#[111,114,100,101,114,102,108,111,119,46,101,114,114,111,114,115]⟩ 194)),(ky P #[95,95,102,105,114,115,116,108,105,110,101,110,111,95,95] 289 (.int (15) 288)),(ky P #[95,95,115,116,97,116,105,99,95,97,116,116,114,105,98,117,116,101,115,95,95] 290 (.ref 90)),(ky P #[95,95,100,111,99,95,95] 291 .none)] 2),slots := #[] }
noncomputable def zDM (P : Params) : Obj := { cls := (.type "type"),dict := none,data := (.cls { name := ⟨#[70,117,108,108,66,111,111,107]⟩,bases := [(.ref 31)],mro := [(.ref 92),(.ref 31),(.type "ValueError"),(.type "Exception"),(.type "BaseException"),(.type "object")],ns := 91,qualname := ⟨#[70,117,108,108,66,111,111,107]⟩,hasDict := true,slotNames := [],subclasses := [],abstract := false,collection := none,hasDel := false }),slots := #[(some (.ref 83)),none,(some (.str ⟨#[70,117,108,108,66,111,111,107]⟩ 278)),(some (.str ⟨#[70,117,108,108,66,111,111,107]⟩ 286)),(some (.builtin "ValueError.__new__")),(some (.bool true))] }
noncomputable def zDL (P : Params) : Obj := ob (.type "super") (.fields #[(.ref 92),(.ref 92),(.ref 92)])
noncomputable def zDK (P : Params) : Obj := ob (.type "builtin_function_or_method") (.fields #[(.builtin "object.__init_subclass__"),(.ref 92)])
noncomputable def zDJ (P : Params) : Obj := { cls := (.type "dict"),dict := none,data := (.dict #[(ky P #[95,95,109,111,100,117,108,101,95,95] 301 (.str ⟨#[111,114,100,101,114,102,108,111,119,46,101,114,114,111,114,115]⟩ 194)),(ky P #[95,95,113,117,97,108,110,97,109,101,95,95] 303 (.str ⟨#[78,111,79,114,100,101,114]⟩ 302)),(ky P #[95,95,102,105,114,115,116,108,105,110,101,110,111,95,95] 305 (.int (17) 304)),(ky P #[95,95,115,116,97,116,105,99,95,97,116,116,114,105,98,117,116,101,115,95,95] 306 (.ref 102))] 4),slots := #[] }
noncomputable def zCi (P : Params) : Obj := { cls := (.type "code"),dict := none,data := (.fields #[(.str ⟨#[78,111,79,114,100,101,114]⟩ 296),(.str ⟨#[78,111,79,114,100,101,114]⟩ 297),(.str ⟨#[47,99,108,97,105,109,47,99,117,116,46,112,121]⟩ 298),(.int (17) 0),(.int (0) 0),(.int (0) 0),(.int (0) 0),(.int (0) 0),(.ref 98),(.bool false),(.int (181) 0),(.ref 99),.none,.none,.none,.none,(.int (299) 0),(.int (17) 0),(.str ⟨#[47,99,108,97,105,109,47,99,117,116,46,112,121]⟩ 300)]),slots := #[] }
noncomputable def zCh (P : Params) : Obj := { cls := (.type "frame"),dict := none,data := .plain,slots := #[(some (.ref 100)),(some (.ref 3)),(some (.ref 97)),none,(some (.str ⟨#[111,114,100,101,114,102,108,111,119,46,101,114,114,111,114,115]⟩ 194)),none,(some (.ref 0))] }
noncomputable def zCg (P : Params) : Obj := { cls := (.type "dict"),dict := none,data := (.dict #[(ky P #[95,95,109,111,100,117,108,101,95,95] 301 (.str ⟨#[111,114,100,101,114,102,108,111,119,46,101,114,114,111,114,115]⟩ 194)),(ky P #[95,95,102,105,114,115,116,108,105,110,101,110,111,95,95] 305 (.int (17) 304)),(ky P #[95,95,115,116,97,116,105,99,95,97,116,116,114,105,98,117,116,101,115,95,95] 306 (.ref 102)),(ky P #[95,95,100,111,99,95,95] 307 .none)] 2),slots := #[] }
noncomputable def zCf (P : Params) : Obj := { cls := (.type "type"),dict := none,data := (.cls { name := ⟨#[78,111,79,114,100,101,114]⟩,bases := [(.ref 31)],mro := [(.ref 104),(.ref 31),(.type "ValueError"),(.type "Exception"),(.type "BaseException"),(.type "object")],ns := 103,qualname := ⟨#[78,111,79,114,100,101,114]⟩,hasDict := true,slotNames := [],subclasses := [],abstract := false,collection := none,hasDel := false }),slots := #[(some (.ref 95)),none,(some (.str ⟨#[78,111,79,114,100,101,114]⟩ 294)),(some (.str ⟨#[78,111,79,114,100,101,114]⟩ 302)),(some (.builtin "ValueError.__new__")),(some (.bool true))] }
noncomputable def zCe (P : Params) : Obj := ob (.type "super") (.fields #[(.ref 104),(.ref 104),(.ref 104)])
noncomputable def zCd (P : Params) : Obj := ob (.type "builtin_function_or_method") (.fields #[(.builtin "object.__init_subclass__"),(.ref 104)])
noncomputable def h05_1 (P : Params) : Heap := ⟨⟨[boot_o_0 P,boot_o_1 P,boot_o_2 P,o05_3_1 P,boot_o_4 P,boot_o_5 P,boot_o_6 P,boot_o_7 P,boot_o_8 P,boot_o_9 P,boot_o_10 P,boot_o_7 P,o05_12_1 P,zCc P,zCb P,boot_o_7 P,boot_o_8 P,zCa P,boot_o_7 P,zCZ P,zCY P,zCX P,zCW P,zAD P,zCV P,boot_o_7 P,boot_o_8 P,zCU P,zCT P,boot_o_7 P,zCS P,o05_31_1 P,zCR P,zCQ P,zCP P,zAF P,zAD P,zCO P,boot_o_7 P,boot_o_8 P,zCN P,zCM P,boot_o_7 P,zCL P,zCK P,zCJ P,zCI P,zAF P,zAD P,zCH P,boot_o_7 P,boot_o_8 P,zCG P,zCF P,boot_o_7 P,zCE P,zCD P,zCC P,zCB P,zAF P,zAD P,zDe P,boot_o_7 P,boot_o_8 P,zDd P,zDc P,boot_o_7 P,zDb P,zDa P,zDZ P,zDY P,zAF P,zAD P,zDX P,boot_o_7 P,boot_o_8 P,zDW P,zDV P,boot_o_7 P,zDU P,zDT P,zDS P,zDR P,zAF P,zAD P,zDQ P,boot_o_7 P,boot_o_8 P,zDP P,zDO P,boot_o_7 P,zDN P,zDM P,zDL P,zDK P,zAF P,zAD P,zDJ P,boot_o_7 P,boot_o_8 P,zCi P,zCh P,boot_o_7 P,zCg P,zCf P,zCe P,zCd P]⟩,{ registered := [],finalised := [],alive := [],known := 0,ids := [],orphanDicts := [],counting := false,cnt := #[],zero := [],soft := 0,below := false,collecting := false }⟩
noncomputable def s05_1 (w : World) (os : OsState) : Shared := ⟨h05_1 w.params,#[],⟨0,0,0,0⟩,310,os⟩
noncomputable def o05_3_2 (P : Params) : Obj := { cls := (.type "dict"),dict := none,data := (.dict #[(ky P #[95,95,110,97,109,101,95,95] 165 (.str ⟨#[111,114,100,101,114,102,108,111,119,46,101,114,114,111,114,115]⟩ 194)),(ky P #[95,95,100,111,99,95,95] 166 .none),(ky P #[95,95,112,97,99,107,97,103,101,95,95] 167 .none),(ky P #[95,95,108,111,97,100,101,114,95,95] 168 (.builtin "__main__.__loader__#opaque")),(ky P #[95,95,115,112,101,99,95,95] 169 .none),(ky P #[95,95,97,110,110,111,116,97,116,105,111,110,115,95,95] 170 (.ref 6)),(ky P #[95,95,98,117,105,108,116,105,110,115,95,95] 171 (.ref 4)),(ky P #[95,95,102,105,108,101,95,95] 173 (.str ⟨#[47,99,108,97,105,109,47,99,117,116,46,112,121]⟩ 172)),(ky P #[95,95,99,97,99,104,101,100,95,95] 174 .none),(ky P #[95,119,97,108,108] 193 (.ref 21)),(ky P #[70,108,111,119,69,114,114,111,114] 213 (.ref 31)),(ky P #[78,111,68,101,101,100] 229 (.ref 44)),(ky P #[78,111,76,105,110,101,115] 245 (.ref 56)),(ky P #[78,111,73,116,101,109] 261 (.ref 68)),(ky P #[78,111,78,117,109,98,101,114] 277 (.ref 80)),(ky P #[70,117,108,108,66,111,111,107] 293 (.ref 92)),(ky P #[78,111,79,114,100,101,114] 309 (.ref 104)),(ky P #[83,97,109,101,79,114,100,101,114] 325 (.ref 116)),(ky P #[78,111,76,105,110,101] 341 (.ref 128)),(ky P #[84,111,111,77,117,99,104] 357 (.ref 140)),(ky P #[78,111,116,104,105,110,103,68,111,110,101] 373 (.ref 152))] 21),slots := #[] }
noncomputable def o05_12_2 (P : Params) : Obj := { cls := .none,dict := none,data := (.fields #[(.int (1) 0),(.int (0) 0),(.ref 20),(.int (5) 0),(.int (0) 0),(.ref 27),(.int (7) 0),(.int (0) 0),(.ref 40),(.int (9) 0),(.int (0) 0),(.ref 52),(.int (11) 0),(.int (0) 0),(.ref 64),(.int (13) 0),(.int (0) 0),(.ref 76),(.int (15) 0),(.int (0) 0),(.ref 88),(.int (17) 0),(.int (0) 0),(.ref 100),(.int (19) 0),(.int (0) 0),(.ref 112),(.int (21) 0),(.int (0) 0),(.ref 124),(.int (23) 0),(.int (0) 0),(.ref 136),(.int (25) 0),(.int (0) 0),(.ref 148)]),slots := #[] }
noncomputable def zFG (P : Params) : Obj := { cls := (.type "type"),dict := none,data := (.cls { name := ⟨#[70,108,111,119,69,114,114,111,114]⟩,bases := [(.type "ValueError")],mro := [(.ref 31),(.type "ValueError"),(.type "Exception"),(.type "BaseException"),(.type "object")],ns := 30,qualname := ⟨#[70,108,111,119,69,114,114,111,114]⟩,hasDict := true,slotNames := [],subclasses := [(.ref 44),(.ref 56),(.ref 68),(.ref 80),(.ref 92),(.ref 104),(.ref 116),(.ref 128),(.ref 140),(.ref 152)],abstract := false,collection := none,hasDel := false }),slots := #[(some (.ref 22)),none,(some (.str ⟨#[70,108,111,119,69,114,114,111,114]⟩ 196)),(some (.str ⟨#[70,108,111,119,69,114,114,111,114]⟩ 204)),(some (.builtin "ValueError.__new__")),(some (.bool true))] }
noncomputable def zET (P : Params) : Obj := { cls := (.type "dict"),dict := none,data := (.dict #[(ky P #[95,95,109,111,100,117,108,101,95,95] 317 (.str ⟨#[111,114,100,101,114,102,108,111,119,46,101,114,114,111,114,115]⟩ 194)),(ky P #[95,95,113,117,97,108,110,97,109,101,95,95] 319 (.str ⟨#[83,97,109,101,79,114,100,101,114]⟩ 318)),(ky P #[95,95,102,105,114,115,116,108,105,110,101,110,111,95,95] 321 (.int (19) 320)),(ky P #[95,95,115,116,97,116,105,99,95,97,116,116,114,105,98,117,116,101,115,95,95] 322 (.ref 114))] 4),slots := #[] }
noncomputable def zES (P : Params) : Obj := { cls := (.type "code"),dict := none,data := (.fields #[(.str ⟨#[83,97,109,101,79,114,100,101,114]⟩ 312),(.str ⟨#[83,97,109,101,79,114,100,101,114]⟩ 313),(.str ⟨#[47,99,108,97,105,109,47,99,117,116,46,112,121]⟩ 314),(.int (19) 0),(.int (0) 0),(.int (0) 0),(.int (0) 0),(.int (0) 0),(.ref 110),(.bool false),(.int (181) 0),(.ref 111),.none,.none,.none,.none,(.int (315) 0),(.int (19) 0),(.str ⟨#[47,99,108,97,105,109,47,99,117,116,46,112,121]⟩ 316)]),slots := #[] }
noncomputable def zER (P : Params) : Obj := { cls := (.type "frame"),dict := none,data := .plain,slots := #[(some (.ref 112)),(some (.ref 3)),(some (.ref 109)),none,(some (.str ⟨#[111,114,100,101,114,102,108,111,119,46,101,114,114,111,114,115]⟩ 194)),none,(some (.ref 0))] }
noncomputable def zEQ (P : Params) : Obj := { cls := (.type "dict"),dict := none,data := (.dict #[(ky P #[95,95,109,111,100,117,108,101,95,95] 317 (.str ⟨#[111,114,100,101,114,102,108,111,119,46,101,114,114,111,114,115]⟩ 194)),(ky P #[95,95,102,105,114,115,116,108,105,110,101,110,111,95,95] 321 (.int (19) 320)),(ky P #[95,95,115,116,97,116,105,99,95,97,116,116,114,105,98,117,116,101,115,95,95] 322 (.ref 114)),(ky P #[95,95,100,111,99,95,95] 323 .none)] 2),slots := #[] }
noncomputable def zEP (P : Params) : Obj := { cls := (.type "type"),dict := none,data := (.cls { name := ⟨#[83,97,109,101,79,114,100,101,114]⟩,bases := [(.ref 31)],mro := [(.ref 116),(.ref 31),(.type "ValueError"),(.type "Exception"),(.type "BaseException"),(.type "object")],ns := 115,qualname := ⟨#[83,97,109,101,79,114,100,101,114]⟩,hasDict := true,slotNames := [],subclasses := [],abstract := false,collection := none,hasDel := false }),slots := #[(some (.ref 107)),none,(some (.str ⟨#[83,97,109,101,79,114,100,101,114]⟩ 310)),(some (.str ⟨#[83,97,109,101,79,114,100,101,114]⟩ 318)),(some (.builtin "ValueError.__new__")),(some (.bool true))] }
noncomputable def zEO (P : Params) : Obj := ob (.type "super") (.fields #[(.ref 116),(.ref 116),(.ref 116)])
noncomputable def zEN (P : Params) : Obj := ob (.type "builtin_function_or_method") (.fields #[(.builtin "object.__init_subclass__"),(.ref 116)])
noncomputable def zEM (P : Params) : Obj := { cls := (.type "dict"),dict := none,data := (.dict #[(ky P #[95,95,109,111,100,117,108,101,95,95] 333 (.str ⟨#[111,114,100,101,114,102,108,111,119,46,101,114,114,111,114,115]⟩ 194)),(ky P #[95,95,113,117,97,108,110,97,109,101,95,95] 335 (.str ⟨#[78,111,76,105,110,101]⟩ 334)),(ky P #[95,95,102,105,114,115,116,108,105,110,101,110,111,95,95] 337 (.int (21) 336)),(ky P #[95,95,115,116,97,116,105,99,95,97,116,116,114,105,98,117,116,101,115,95,95] 338 (.ref 126))] 4),slots := #[] }
noncomputable def zEL (P : Params) : Obj := { cls := (.type "code"),dict := none,data := (.fields #[(.str ⟨#[78,111,76,105,110,101]⟩ 328),(.str ⟨#[78,111,76,105,110,101]⟩ 329),(.str ⟨#[47,99,108,97,105,109,47,99,117,116,46,112,121]⟩ 330),(.int (21) 0),(.int (0) 0),(.int (0) 0),(.int (0) 0),(.int (0) 0),(.ref 122),(.bool false),(.int (181) 0),(.ref 123),.none,.none,.none,.none,(.int (331) 0),(.int (21) 0),(.str ⟨#[47,99,108,97,105,109,47,99,117,116,46,112,121]⟩ 332)]),slots := #[] }
noncomputable def zEK (P : Params) : Obj := { cls := (.type "frame"),dict := none,data := .plain,slots := #[(some (.ref 124)),(some (.ref 3)),(some (.ref 121)),none,(some (.str ⟨#[111,114,100,101,114,102,108,111,119,46,101,114,114,111,114,115]⟩ 194)),none,(some (.ref 0))] }
noncomputable def zEJ (P : Params) : Obj := { cls := (.type "dict"),dict := none,data := (.dict #[(ky P #[95,95,109,111,100,117,108,101,95,95] 333 (.str ⟨#[111,114,100,101,114,102,108,111,119,46,101,114,114,111,114,115]⟩ 194)),(ky P #[95,95,102,105,114,115,116,108,105,110,101,110,111,95,95] 337 (.int (21) 336)),(ky P #[95,95,115,116,97,116,105,99,95,97,116,116,114,105,98,117,116,101,115,95,95] 338 (.ref 126)),(ky P #[95,95,100,111,99,95,95] 339 .none)] 2),slots := #[] }
noncomputable def zEI (P : Params) : Obj := { cls := (.type "type"),dict := none,data := (.cls { name := ⟨#[78,111,76,105,110,101]⟩,bases := [(.ref 31)],mro := [(.ref 128),(.ref 31),(.type "ValueError"),(.type "Exception"),(.type "BaseException"),(.type "object")],ns := 127,qualname := ⟨#[78,111,76,105,110,101]⟩,hasDict := true,slotNames := [],subclasses := [],abstract := false,collection := none,hasDel := false }),slots := #[(some (.ref 119)),none,(some (.str ⟨#[78,111,76,105,110,101]⟩ 326)),(some (.str ⟨#[78,111,76,105,110,101]⟩ 334)),(some (.builtin "ValueError.__new__")),(some (.bool true))] }
noncomputable def zEH (P : Params) : Obj := ob (.type "super") (.fields #[(.ref 128),(.ref 128),(.ref 128)])
noncomputable def zEG (P : Params) : Obj := ob (.type "builtin_function_or_method") (.fields #[(.builtin "object.__init_subclass__"),(.ref 128)])
noncomputable def zEF (P : Params) : Obj := { cls := (.type "dict"),dict := none,data := (.dict #[(ky P #[95,95,109,111,100,117,108,101,95,95] 349 (.str ⟨#[111,114,100,101,114,102,108,111,119,46,101,114,114,111,114,115]⟩ 194)),(ky P #[95,95,113,117,97,108,110,97,109,101,95,95] 351 (.str ⟨#[84,111,111,77,117,99,104]⟩ 350)),(ky P #[95,95,102,105,114,115,116,108,105,110,101,110,111,95,95] 353 (.int (23) 352)),(ky P #[95,95,115,116,97,116,105,99,95,97,116,116,114,105,98,117,116,101,115,95,95] 354 (.ref 138))] 4),slots := #[] }
noncomputable def zEE (P : Params) : Obj := { cls := (.type "code"),dict := none,data := (.fields #[(.str ⟨#[84,111,111,77,117,99,104]⟩ 344),(.str ⟨#[84,111,111,77,117,99,104]⟩ 345),(.str ⟨#[47,99,108,97,105,109,47,99,117,116,46,112,121]⟩ 346),(.int (23) 0),(.int (0) 0),(.int (0) 0),(.int (0) 0),(.int (0) 0),(.ref 134),(.bool false),(.int (181) 0),(.ref 135),.none,.none,.none,.none,(.int (347) 0),(.int (23) 0),(.str ⟨#[47,99,108,97,105,109,47,99,117,116,46,112,121]⟩ 348)]),slots := #[] }
noncomputable def zED (P : Params) : Obj := { cls := (.type "frame"),dict := none,data := .plain,slots := #[(some (.ref 136)),(some (.ref 3)),(some (.ref 133)),none,(some (.str ⟨#[111,114,100,101,114,102,108,111,119,46,101,114,114,111,114,115]⟩ 194)),none,(some (.ref 0))] }
noncomputable def zEC (P : Params) : Obj := { cls := (.type "dict"),dict := none,data := (.dict #[(ky P #[95,95,109,111,100,117,108,101,95,95] 349 (.str ⟨#[111,114,100,101,114,102,108,111,119,46,101,114,114,111,114,115]⟩ 194)),(ky P #[95,95,102,105,114,115,116,108,105,110,101,110,111,95,95] 353 (.int (23) 352)),(ky P #[95,95,115,116,97,116,105,99,95,97,116,116,114,105,98,117,116,101,115,95,95] 354 (.ref 138)),(ky P #[95,95,100,111,99,95,95] 355 .none)] 2),slots := #[] }
noncomputable def zEB (P : Params) : Obj := { cls := (.type "type"),dict := none,data := (.cls { name := ⟨#[84,111,111,77,117,99,104]⟩,bases := [(.ref 31)],mro := [(.ref 140),(.ref 31),(.type "ValueError"),(.type "Exception"),(.type "BaseException"),(.type "object")],ns := 139,qualname := ⟨#[84,111,111,77,117,99,104]⟩,hasDict := true,slotNames := [],subclasses := [],abstract := false,collection := none,hasDel := false }),slots := #[(some (.ref 131)),none,(some (.str ⟨#[84,111,111,77,117,99,104]⟩ 342)),(some (.str ⟨#[84,111,111,77,117,99,104]⟩ 350)),(some (.builtin "ValueError.__new__")),(some (.bool true))] }
noncomputable def zEA (P : Params) : Obj := ob (.type "super") (.fields #[(.ref 140),(.ref 140),(.ref 140)])
noncomputable def zDz (P : Params) : Obj := ob (.type "builtin_function_or_method") (.fields #[(.builtin "object.__init_subclass__"),(.ref 140)])
noncomputable def zDy (P : Params) : Obj := { cls := (.type "dict"),dict := none,data := (.dict #[(ky P #[95,95,109,111,100,117,108,101,95,95] 365 (.str ⟨#[111,114,100,101,114,102,108,111,119,46,101,114,114,111,114,115]⟩ 194)),(ky P #[95,95,113,117,97,108,110,97,109,101,95,95] 367 (.str ⟨#[78,111,116,104,105,110,103,68,111,110,101]⟩ 366)),(ky P #[95,95,102,105,114,115,116,108,105,110,101,110,111,95,95] 369 (.int (25) 368)),(ky P #[95,95,115,116,97,116,105,99,95,97,116,116,114,105,98,117,116,101,115,95,95] 370 (.ref 150))] 4),slots := #[] }
noncomputable def zDx (P : Params) : Obj := { cls := (.type "code"),dict := none,data := (.fields #[(.str ⟨#[78,111,116,104,105,110,103,68,111,110,101]⟩ 360),(.str ⟨#[78,111,116,104,105,110,103,68,111,110,101]⟩ 361),(.str ⟨#[47,99,108,97,105,109,47,99,117,116,46,112,121]⟩ 362),(.int (25) 0),(.int (0) 0),(.int (0) 0),(.int (0) 0),(.int (0) 0),(.ref 146),(.bool false),(.int (181) 0),(.ref 147),.none,.none,.none,.none,(.int (363) 0),(.int (25) 0),(.str ⟨#[47,99,108,97,105,109,47,99,117,116,46,112,121]⟩ 364)]),slots := #[] }
noncomputable def zDw (P : Params) : Obj := { cls := (.type "frame"),dict := none,data := .plain,slots := #[(some (.ref 148)),(some (.ref 3)),(some (.ref 145)),none,(some (.str ⟨#[111,114,100,101,114,102,108,111,119,46,101,114,114,111,114,115]⟩ 194)),none,(some (.ref 0))] }
noncomputable def zDv (P : Params) : Obj := { cls := (.type "dict"),dict := none,data := (.dict #[(ky P #[95,95,109,111,100,117,108,101,95,95] 365 (.str ⟨#[111,114,100,101,114,102,108,111,119,46,101,114,114,111,114,115]⟩ 194)),(ky P #[95,95,102,105,114,115,116,108,105,110,101,110,111,95,95] 369 (.int (25) 368)),(ky P #[95,95,115,116,97,116,105,99,95,97,116,116,114,105,98,117,116,101,115,95,95] 370 (.ref 150)),(ky P #[95,95,100,111,99,95,95] 371 .none)] 2),slots := #[] }
noncomputable def zDu (P : Params) : Obj := { cls := (.type "type"),dict := none,data := (.cls { name := ⟨#[78,111,116,104,105,110,103,68,111,110,101]⟩,bases := [(.ref 31)],mro := [(.ref 152),(.ref 31),(.type "ValueError"),(.type "Exception"),(.type "BaseException"),(.type "object")],ns := 151,qualname := ⟨#[78,111,116,104,105,110,103,68,111,110,101]⟩,hasDict := true,slotNames := [],subclasses := [],abstract := false,collection := none,hasDel := false }),slots := #[(some (.ref 143)),none,(some (.str ⟨#[78,111,116,104,105,110,103,68,111,110,101]⟩ 358)),(some (.str ⟨#[78,111,116,104,105,110,103,68,111,110,101]⟩ 366)),(some (.builtin "ValueError.__new__")),(some (.bool true))] }
noncomputable def zDt (P : Params) : Obj := ob (.type "super") (.fields #[(.ref 152),(.ref 152),(.ref 152)])
noncomputable def zDs (P : Params) : Obj := ob (.type "builtin_function_or_method") (.fields #[(.builtin "object.__init_subclass__"),(.ref 152)])
noncomputable def h05_2 (P : Params) : Heap := ⟨⟨[boot_o_0 P,boot_o_1 P,boot_o_2 P,o05_3_2 P,boot_o_4 P,boot_o_5 P,boot_o_6 P,boot_o_7 P,boot_o_8 P,boot_o_9 P,boot_o_10 P,boot_o_7 P,o05_12_2 P,zCc P,zCb P,boot_o_7 P,boot_o_8 P,zCa P,boot_o_7 P,zCZ P,zCY P,zCX P,zCW P,zAD P,zCV P,boot_o_7 P,boot_o_8 P,zCU P,zCT P,boot_o_7 P,zCS P,zFG P,zCR P,zCQ P,zCP P,zAF P,zAD P,zCO P,boot_o_7 P,boot_o_8 P,zCN P,zCM P,boot_o_7 P,zCL P,zCK P,zCJ P,zCI P,zAF P,zAD P,zCH P,boot_o_7 P,boot_o_8 P,zCG P,zCF P,boot_o_7 P,zCE P,zCD P,zCC P,zCB P,zAF P,zAD P,zDe P,boot_o_7 P,boot_o_8 P,zDd P,zDc P,boot_o_7 P,zDb P,zDa P,zDZ P,zDY P,zAF P,zAD P,zDX P,boot_o_7 P,boot_o_8 P,zDW P,zDV P,boot_o_7 P,zDU P,zDT P,zDS P,zDR P,zAF P,zAD P,zDQ P,boot_o_7 P,boot_o_8 P,zDP P,zDO P,boot_o_7 P,zDN P,zDM P,zDL P,zDK P,zAF P,zAD P,zDJ P,boot_o_7 P,boot_o_8 P,zCi P,zCh P,boot_o_7 P,zCg P,zCf P,zCe P,zCd P,zAF P,zAD P,zET P,boot_o_7 P,boot_o_8 P,zES P,zER P,boot_o_7 P,zEQ P,zEP P,zEO P,zEN P,zAF P,zAD P,zEM P,boot_o_7 P,boot_o_8 P,zEL P,zEK P,boot_o_7 P,zEJ P,zEI P,zEH P,zEG P,zAF P,zAD P,zEF P,boot_o_7 P,boot_o_8 P,zEE P,zED P,boot_o_7 P,zEC P,zEB P,zEA P,zDz P,zAF P,zAD P,zDy P,boot_o_7 P,boot_o_8 P,zDx P,zDw P,boot_o_7 P,zDv P,zDu P,zDt P,zDs P]⟩,{ registered := [],finalised := [],alive := [],known := 0,ids := [],orphanDicts := [],counting := false,cnt := #[],zero := [],soft := 0,below := false,collecting := false }⟩
noncomputable def s05_2 (w : World) (os : OsState) : Shared := ⟨h05_2 w.params,#[],⟨0,0,0,0⟩,374,os⟩
noncomputable def o05_3_3 (P : Params) : Obj := { cls := (.type "dict"),dict := none,data := (.dict #[(ky P #[95,95,110,97,109,101,95,95] 165 (.str ⟨#[111,114,100,101,114,102,108,111,119,46,98,111,111,107]⟩ 446)),(ky P #[95,95,100,111,99,95,95] 166 .none),(ky P #[95,95,112,97,99,107,97,103,101,95,95] 167 .none),(ky P #[95,95,108,111,97,100,101,114,95,95] 168 (.builtin "__main__.__loader__#opaque")),(ky P #[95,95,115,112,101,99,95,95] 169 .none),(ky P #[95,95,97,110,110,111,116,97,116,105,111,110,115,95,95] 170 (.ref 6)),(ky P #[95,95,98,117,105,108,116,105,110,115,95,95] 171 (.ref 4)),(ky P #[95,95,102,105,108,101,95,95] 173 (.str ⟨#[47,99,108,97,105,109,47,99,117,116,46,112,121]⟩ 172)),(ky P #[95,95,99,97,99,104,101,100,95,95] 174 .none),(ky P #[95,119,97,108,108] 193 (.ref 21)),(ky P #[70,108,111,119,69,114,114,111,114] 213 (.ref 31)),(ky P #[78,111,68,101,101,100] 229 (.ref 44)),(ky P #[78,111,76,105,110,101,115] 245 (.ref 56)),(ky P #[78,111,73,116,101,109] 261 (.ref 68)),(ky P #[78,111,78,117,109,98,101,114] 277 (.ref 80)),(ky P #[70,117,108,108,66,111,111,107] 293 (.ref 92)),(ky P #[78,111,79,114,100,101,114] 309 (.ref 104)),(ky P #[83,97,109,101,79,114,100,101,114] 325 (.ref 116)),(ky P #[78,111,76,105,110,101] 341 (.ref 128)),(ky P #[84,111,111,77,117,99,104] 357 (.ref 140)),(ky P #[78,111,116,104,105,110,103,68,111,110,101] 373 (.ref 152)),(ky P #[76,69,84,84,69,82,83] 377 (.str ⟨#[97,98,99,100,101,102,103,104,105,106,107,108,109,110,111,112,113,114,115,116,117,118,119,120,121,122]⟩ 376)),(ky P #[77,79,83,84,95,83,73,71,78,83] 379 (.int (12) 378)),(ky P #[77,79,83,84,95,76,73,78,69,83] 381 (.int (20) 380)),(ky P #[77,79,83,84,95,80,73,69,67,69,83] 383 (.int (1000000) 382)),(ky P #[77,79,83,84,95,67,69,78,84,83] 385 (.int (1000000000) 384)),(ky P #[77,79,83,84,95,80,65,67,75] 387 (.int (1000) 386)),(ky P #[119,111,114,116,104] 396 (.ref 161)),(ky P #[105,115,95,105,116,101,109] 402 (.ref 166)),(ky P #[99,104,101,99,107,95,108,105,110,101,115] 410 (.ref 173)),(ky P #[98,101,103,117,110] 417 (.ref 180)),(ky P #[99,104,97,114,103,101] 424 (.ref 187)),(ky P #[109,111,115,116,95,111,102] 432 (.ref 194)),(ky P #[98,101,104,105,110,100] 445 (.ref 201)),(ky P #[77,79,83,84,95,79,82,68,69,82,83] 449 (.int (40) 448)),(ky P #[80,65,82,84,83] 474 (.ref 202))] 36),slots := #[] }
noncomputable def o05_12_3 (P : Params) : Obj := { cls := .none,dict := none,data := (.fields #[(.int (1) 0),(.int (0) 0),(.ref 20),(.int (5) 0),(.int (0) 0),(.ref 27),(.int (7) 0),(.int (0) 0),(.ref 40),(.int (9) 0),(.int (0) 0),(.ref 52),(.int (11) 0),(.int (0) 0),(.ref 64),(.int (13) 0),(.int (0) 0),(.ref 76),(.int (15) 0),(.int (0) 0),(.ref 88),(.int (17) 0),(.int (0) 0),(.ref 100),(.int (19) 0),(.int (0) 0),(.ref 112),(.int (21) 0),(.int (0) 0),(.ref 124),(.int (23) 0),(.int (0) 0),(.ref 136),(.int (25) 0),(.int (0) 0),(.ref 148),(.int (34) 0),(.int (0) 0),(.ref 160),(.int (36) 0),(.int (0) 0),(.ref 165),(.int (40) 0),(.int (0) 0),(.ref 172),(.int (48) 0),(.int (0) 0),(.ref 179),(.int (50) 0),(.int (0) 0),(.ref 186),(.int (52) 0),(.int (0) 0),(.ref 193),(.int (58) 0),(.int (0) 0),(.ref 200)]),slots := #[] }
noncomputable def zGN (P : Params) : Obj := ob (.type "tuple") (.seq #[(.str ⟨#[112,105,101,99,101,115]⟩ 391),(.str ⟨#[99,101,110,116,115]⟩ 392),(.str ⟨#[112,97,99,107]⟩ 393)] 0)
noncomputable def zGM (P : Params) : Obj := fo .none #[119,111,114,116,104] #[119,111,114,116,104] (topS 20) 0 .none .none
noncomputable def zGL (P : Params) : Obj := { cls := (.type "code"),dict := none,data := (.fields #[(.str ⟨#[119,111,114,116,104]⟩ 388),(.str ⟨#[119,111,114,116,104]⟩ 389),(.str ⟨#[47,99,108,97,105,109,47,99,117,116,46,112,121]⟩ 390),(.int (34) 0),(.int (3) 0),(.int (0) 0),(.int (0) 0),(.int (3) 0),(.ref 155),(.bool true),(.int (181) 0),(.ref 156),.none,(.ref 157),(.ref 158),(.ref 159),(.int (394) 0),(.int (34) 0),(.str ⟨#[47,99,108,97,105,109,47,99,117,116,46,112,121]⟩ 395)]),slots := #[] }
noncomputable def zGK (P : Params) : Obj := fo (.type "function") #[119,111,114,116,104] #[119,111,114,116,104] (topS 20) 3 (.str ⟨#[111,114,100,101,114,102,108,111,119,46,108,105,110,101,115]⟩ 374) (.ref 160)
noncomputable def zGJ (P : Params) : Obj := fo .none #[105,115,95,105,116,101,109] #[105,115,95,105,116,101,109] (topS 21) 0 .none .none
noncomputable def zGI (P : Params) : Obj := { cls := (.type "code"),dict := none,data := (.fields #[(.str ⟨#[105,115,95,105,116,101,109]⟩ 397),(.str ⟨#[105,115,95,105,116,101,109]⟩ 398),(.str ⟨#[47,99,108,97,105,109,47,99,117,116,46,112,121]⟩ 399),(.int (36) 0),(.int (1) 0),(.int (0) 0),(.int (0) 0),(.int (3) 0),(.ref 162),(.bool true),(.int (181) 0),(.ref 163),.none,.none,.none,(.ref 164),(.int (400) 0),(.int (36) 0),(.str ⟨#[47,99,108,97,105,109,47,99,117,116,46,112,121]⟩ 401)]),slots := #[] }
noncomputable def zGH (P : Params) : Obj := fo (.type "function") #[105,115,95,105,116,101,109] #[105,115,95,105,116,101,109] (topS 21) 3 (.str ⟨#[111,114,100,101,114,102,108,111,119,46,108,105,110,101,115]⟩ 374) (.ref 165)
noncomputable def zGG (P : Params) : Obj := ob (.type "tuple") (.seq #[(.str ⟨#[108,105,110,101,115]⟩ 406),(.str ⟨#[108,105,110,101]⟩ 407)] 0)
noncomputable def zGF (P : Params) : Obj := fo .none #[99,104,101,99,107,95,108,105,110,101,115] #[99,104,101,99,107,95,108,105,110,101,115] (topS 22) 0 .none .none
noncomputable def zGE (P : Params) : Obj := { cls := (.type "code"),dict := none,data := (.fields #[(.str ⟨#[99,104,101,99,107,95,108,105,110,101,115]⟩ 403),(.str ⟨#[99,104,101,99,107,95,108,105,110,101,115]⟩ 404),(.str ⟨#[47,99,108,97,105,109,47,99,117,116,46,112,121]⟩ 405),(.int (40) 0),(.int (1) 0),(.int (0) 0),(.int (0) 0),(.int (3) 0),(.ref 167),(.bool true),(.int (181) 0),(.ref 168),.none,(.ref 169),(.ref 170),(.ref 171),(.int (408) 0),(.int (40) 0),(.str ⟨#[47,99,108,97,105,109,47,99,117,116,46,112,121]⟩ 409)]),slots := #[] }
noncomputable def zGD (P : Params) : Obj := fo (.type "function") #[99,104,101,99,107,95,108,105,110,101,115] #[99,104,101,99,107,95,108,105,110,101,115] (topS 22) 3 (.str ⟨#[111,114,100,101,114,102,108,111,119,46,108,105,110,101,115]⟩ 374) (.ref 172)
noncomputable def zGC (P : Params) : Obj := ob (.type "tuple") (.seq #[(.str ⟨#[108,105,110,101]⟩ 414)] 0)
noncomputable def zGB (P : Params) : Obj := fo .none #[98,101,103,117,110] #[98,101,103,117,110] (topS 23) 0 .none .none
noncomputable def zGA (P : Params) : Obj := { cls := (.type "code"),dict := none,data := (.fields #[(.str ⟨#[98,101,103,117,110]⟩ 411),(.str ⟨#[98,101,103,117,110]⟩ 412),(.str ⟨#[47,99,108,97,105,109,47,99,117,116,46,112,121]⟩ 413),(.int (48) 0),(.int (1) 0),(.int (0) 0),(.int (0) 0),(.int (3) 0),(.ref 174),(.bool true),(.int (181) 0),(.ref 175),.none,(.ref 176),(.ref 177),(.ref 178),(.int (415) 0),(.int (48) 0),(.str ⟨#[47,99,108,97,105,109,47,99,117,116,46,112,121]⟩ 416)]),slots := #[] }
noncomputable def zFz (P : Params) : Obj := fo (.type "function") #[98,101,103,117,110] #[98,101,103,117,110] (topS 23) 3 (.str ⟨#[111,114,100,101,114,102,108,111,119,46,108,105,110,101,115]⟩ 374) (.ref 179)
noncomputable def zFy (P : Params) : Obj := ob (.type "tuple") (.seq #[(.str ⟨#[108,105,110,101]⟩ 421)] 0)
noncomputable def zFx (P : Params) : Obj := fo .none #[99,104,97,114,103,101] #[99,104,97,114,103,101] (topS 24) 0 .none .none
noncomputable def zFw (P : Params) : Obj := { cls := (.type "code"),dict := none,data := (.fields #[(.str ⟨#[99,104,97,114,103,101]⟩ 418),(.str ⟨#[99,104,97,114,103,101]⟩ 419),(.str ⟨#[47,99,108,97,105,109,47,99,117,116,46,112,121]⟩ 420),(.int (50) 0),(.int (1) 0),(.int (0) 0),(.int (0) 0),(.int (3) 0),(.ref 181),(.bool true),(.int (181) 0),(.ref 182),.none,(.ref 183),(.ref 184),(.ref 185),(.int (422) 0),(.int (50) 0),(.str ⟨#[47,99,108,97,105,109,47,99,117,116,46,112,121]⟩ 423)]),slots := #[] }
noncomputable def zFv (P : Params) : Obj := fo (.type "function") #[99,104,97,114,103,101] #[99,104,97,114,103,101] (topS 24) 3 (.str ⟨#[111,114,100,101,114,102,108,111,119,46,108,105,110,101,115]⟩ 374) (.ref 186)
noncomputable def zFu (P : Params) : Obj := ob (.type "tuple") (.seq #[(.str ⟨#[119,111,114,100]⟩ 428),(.str ⟨#[108,105,110,101]⟩ 429)] 0)
noncomputable def zFt (P : Params) : Obj := fo .none #[109,111,115,116,95,111,102] #[109,111,115,116,95,111,102] (topS 25) 0 .none .none
noncomputable def zFs (P : Params) : Obj := { cls := (.type "code"),dict := none,data := (.fields #[(.str ⟨#[109,111,115,116,95,111,102]⟩ 425),(.str ⟨#[109,111,115,116,95,111,102]⟩ 426),(.str ⟨#[47,99,108,97,105,109,47,99,117,116,46,112,121]⟩ 427),(.int (52) 0),(.int (2) 0),(.int (0) 0),(.int (0) 0),(.int (3) 0),(.ref 188),(.bool true),(.int (181) 0),(.ref 189),.none,(.ref 190),(.ref 191),(.ref 192),(.int (430) 0),(.int (52) 0),(.str ⟨#[47,99,108,97,105,109,47,99,117,116,46,112,121]⟩ 431)]),slots := #[] }
noncomputable def zFr (P : Params) : Obj := fo (.type "function") #[109,111,115,116,95,111,102] #[109,111,115,116,95,111,102] (topS 25) 3 (.str ⟨#[111,114,100,101,114,102,108,111,119,46,108,105,110,101,115]⟩ 374) (.ref 193)
noncomputable def zFq (P : Params) : Obj := ob (.type "tuple") (.seq #[(.str ⟨#[119,111,114,100]⟩ 436),(.str ⟨#[108,105,110,101]⟩ 437),(.str ⟨#[109,97,110,121]⟩ 438),(.str ⟨#[115,101,110,116]⟩ 439),(.str ⟨#[104,111,109,101]⟩ 440),(.str ⟨#[97,103,97,105,110]⟩ 441),(.str ⟨#[99,114,101,100,105,116,101,100]⟩ 442)] 0)
noncomputable def zFp (P : Params) : Obj := fo .none #[98,101,104,105,110,100] #[98,101,104,105,110,100] (topS 26) 0 .none .none
noncomputable def zFo (P : Params) : Obj := { cls := (.type "code"),dict := none,data := (.fields #[(.str ⟨#[98,101,104,105,110,100]⟩ 433),(.str ⟨#[98,101,104,105,110,100]⟩ 434),(.str ⟨#[47,99,108,97,105,109,47,99,117,116,46,112,121]⟩ 435),(.int (58) 0),(.int (3) 0),(.int (0) 0),(.int (0) 0),(.int (3) 0),(.ref 195),(.bool true),(.int (181) 0),(.ref 196),.none,(.ref 197),(.ref 198),(.ref 199),(.int (443) 0),(.int (58) 0),(.str ⟨#[47,99,108,97,105,109,47,99,117,116,46,112,121]⟩ 444)]),slots := #[] }
noncomputable def zFn (P : Params) : Obj := fo (.type "function") #[98,101,104,105,110,100] #[98,101,104,105,110,100] (topS 26) 3 (.str ⟨#[111,114,100,101,114,102,108,111,119,46,108,105,110,101,115]⟩ 374) (.ref 200)
noncomputable def zFm (P : Params) : Obj := { cls := (.type "dict"),dict := none,data := (.dict #[(ky P #[111,114,100,101,114] 450 (.int (2) 451)),(ky P #[100,101,108,105,118,101,114] 452 (.int (4) 453)),(ky P #[98,97,99,107] 454 (.int (4) 455)),(ky P #[115,119,97,112] 456 (.int (4) 457)),(ky P #[99,114,101,100,105,116] 458 (.int (4) 459)),(ky P #[112,97,121] 460 (.int (3) 461)),(ky P #[114,101,102,117,110,100] 462 (.int (3) 463)),(ky P #[109,111,118,101] 464 (.int (4) 465))] 8),slots := #[] }
noncomputable def h05_3 (P : Params) : Heap := ⟨⟨[boot_o_0 P,boot_o_1 P,boot_o_2 P,o05_3_3 P,boot_o_4 P,boot_o_5 P,boot_o_6 P,boot_o_7 P,boot_o_8 P,boot_o_9 P,boot_o_10 P,boot_o_7 P,o05_12_3 P,zCc P,zCb P,boot_o_7 P,boot_o_8 P,zCa P,boot_o_7 P,zCZ P,zCY P,zCX P,zCW P,zAD P,zCV P,boot_o_7 P,boot_o_8 P,zCU P,zCT P,boot_o_7 P,zCS P,zFG P,zCR P,zCQ P,zCP P,zAF P,zAD P,zCO P,boot_o_7 P,boot_o_8 P,zCN P,zCM P,boot_o_7 P,zCL P,zCK P,zCJ P,zCI P,zAF P,zAD P,zCH P,boot_o_7 P,boot_o_8 P,zCG P,zCF P,boot_o_7 P,zCE P,zCD P,zCC P,zCB P,zAF P,zAD P,zDe P,boot_o_7 P,boot_o_8 P,zDd P,zDc P,boot_o_7 P,zDb P,zDa P,zDZ P,zDY P,zAF P,zAD P,zDX P,boot_o_7 P,boot_o_8 P,zDW P,zDV P,boot_o_7 P,zDU P,zDT P,zDS P,zDR P,zAF P,zAD P,zDQ P,boot_o_7 P,boot_o_8 P,zDP P,zDO P,boot_o_7 P,zDN P,zDM P,zDL P,zDK P,zAF P,zAD P,zDJ P,boot_o_7 P,boot_o_8 P,zCi P,zCh P,boot_o_7 P,zCg P,zCf P,zCe P,zCd P,zAF P,zAD P,zET P,boot_o_7 P,boot_o_8 P,zES P,zER P,boot_o_7 P,zEQ P,zEP P,zEO P,zEN P,zAF P,zAD P,zEM P,boot_o_7 P,boot_o_8 P,zEL P,zEK P,boot_o_7 P,zEJ P,zEI P,zEH P,zEG P,zAF P,zAD P,zEF P,boot_o_7 P,boot_o_8 P,zEE P,zED P,boot_o_7 P,zEC P,zEB P,zEA P,zDz P,zAF P,zAD P,zDy P,boot_o_7 P,boot_o_8 P,zDx P,zDw P,boot_o_7 P,zDv P,zDu P,zDt P,zDs P,boot_o_7 P,boot_o_8 P,zGN P,boot_o_7 P,zGM P,zGL P,zGK P,boot_o_7 P,boot_o_8 P,zGJ P,zGI P,zGH P,boot_o_7 P,boot_o_8 P,zGG P,boot_o_7 P,zGF P,zGE P,zGD P,boot_o_7 P,boot_o_8 P,zGC P,boot_o_7 P,zGB P,zGA P,zFz P,boot_o_7 P,boot_o_8 P,zFy P,boot_o_7 P,zFx P,zFw P,zFv P,boot_o_7 P,boot_o_8 P,zFu P,boot_o_7 P,zFt P,zFs P,zFr P,boot_o_7 P,boot_o_8 P,zFq P,boot_o_7 P,zFp P,zFo P,zFn P,zFm P]⟩,{ registered := [],finalised := [],alive := [],known := 0,ids := [],orphanDicts := [],counting := false,cnt := #[],zero := [],soft := 0,below := false,collecting := false }⟩
noncomputable def s05_3 (w : World) (os : OsState) : Shared := ⟨h05_3 w.params,#[],⟨0,0,0,0⟩,475,os⟩
noncomputable def o05_3_4 (P : Params) : Obj := { cls := (.type "dict"),dict := none,data := (.dict #[(ky P #[95,95,110,97,109,101,95,95] 165 (.str ⟨#[111,114,100,101,114,102,108,111,119,46,98,111,111,107]⟩ 446)),(ky P #[95,95,100,111,99,95,95] 166 .none),(ky P #[95,95,112,97,99,107,97,103,101,95,95] 167 .none),(ky P #[95,95,108,111,97,100,101,114,95,95] 168 (.builtin "__main__.__loader__#opaque")),(ky P #[95,95,115,112,101,99,95,95] 169 .none),(ky P #[95,95,97,110,110,111,116,97,116,105,111,110,115,95,95] 170 (.ref 6)),(ky P #[95,95,98,117,105,108,116,105,110,115,95,95] 171 (.ref 4)),(ky P #[95,95,102,105,108,101,95,95] 173 (.str ⟨#[47,99,108,97,105,109,47,99,117,116,46,112,121]⟩ 172)),(ky P #[95,95,99,97,99,104,101,100,95,95] 174 .none),(ky P #[95,119,97,108,108] 193 (.ref 21)),(ky P #[70,108,111,119,69,114,114,111,114] 213 (.ref 31)),(ky P #[78,111,68,101,101,100] 229 (.ref 44)),(ky P #[78,111,76,105,110,101,115] 245 (.ref 56)),(ky P #[78,111,73,116,101,109] 261 (.ref 68)),(ky P #[78,111,78,117,109,98,101,114] 277 (.ref 80)),(ky P #[70,117,108,108,66,111,111,107] 293 (.ref 92)),(ky P #[78,111,79,114,100,101,114] 309 (.ref 104)),(ky P #[83,97,109,101,79,114,100,101,114] 325 (.ref 116)),(ky P #[78,111,76,105,110,101] 341 (.ref 128)),(ky P #[84,111,111,77,117,99,104] 357 (.ref 140)),(ky P #[78,111,116,104,105,110,103,68,111,110,101] 373 (.ref 152)),(ky P #[76,69,84,84,69,82,83] 377 (.str ⟨#[97,98,99,100,101,102,103,104,105,106,107,108,109,110,111,112,113,114,115,116,117,118,119,120,121,122]⟩ 376)),(ky P #[77,79,83,84,95,83,73,71,78,83] 379 (.int (12) 378)),(ky P #[77,79,83,84,95,76,73,78,69,83] 381 (.int (20) 380)),(ky P #[77,79,83,84,95,80,73,69,67,69,83] 383 (.int (1000000) 382)),(ky P #[77,79,83,84,95,67,69,78,84,83] 385 (.int (1000000000) 384)),(ky P #[77,79,83,84,95,80,65,67,75] 387 (.int (1000) 386)),(ky P #[119,111,114,116,104] 396 (.ref 161)),(ky P #[105,115,95,105,116,101,109] 402 (.ref 166)),(ky P #[99,104,101,99,107,95,108,105,110,101,115] 410 (.ref 173)),(ky P #[98,101,103,117,110] 417 (.ref 180)),(ky P #[99,104,97,114,103,101] 424 (.ref 187)),(ky P #[109,111,115,116,95,111,102] 432 (.ref 194)),(ky P #[98,101,104,105,110,100] 445 (.ref 201)),(ky P #[77,79,83,84,95,79,82,68,69,82,83] 449 (.int (40) 448)),(ky P #[80,65,82,84,83] 474 (.ref 202)),(ky P #[76,73,78,69,68] 479 (.ref 203)),(ky P #[66,111,111,107] 643 (.ref 326))] 38),slots := #[] }
noncomputable def o05_12_4 (P : Params) : Obj := { cls := .none,dict := none,data := (.fields #[(.int (1) 0),(.int (0) 0),(.ref 20),(.int (5) 0),(.int (0) 0),(.ref 27),(.int (7) 0),(.int (0) 0),(.ref 40),(.int (9) 0),(.int (0) 0),(.ref 52),(.int (11) 0),(.int (0) 0),(.ref 64),(.int (13) 0),(.int (0) 0),(.ref 76),(.int (15) 0),(.int (0) 0),(.ref 88),(.int (17) 0),(.int (0) 0),(.ref 100),(.int (19) 0),(.int (0) 0),(.ref 112),(.int (21) 0),(.int (0) 0),(.ref 124),(.int (23) 0),(.int (0) 0),(.ref 136),(.int (25) 0),(.int (0) 0),(.ref 148),(.int (34) 0),(.int (0) 0),(.ref 160),(.int (36) 0),(.int (0) 0),(.ref 165),(.int (40) 0),(.int (0) 0),(.ref 172),(.int (48) 0),(.int (0) 0),(.ref 179),(.int (50) 0),(.int (0) 0),(.ref 186),(.int (52) 0),(.int (0) 0),(.ref 193),(.int (58) 0),(.int (0) 0),(.ref 200),(.int (77) 0),(.int (0) 0),(.ref 209)]),slots := #[] }
noncomputable def o05_203_4 (P : Params) : Obj := ob (.type "tuple") (.seq #[(.str ⟨#[100,101,108,105,118,101,114]⟩ 475),(.str ⟨#[98,97,99,107]⟩ 476),(.str ⟨#[115,119,97,112]⟩ 477),(.str ⟨#[99,114,101,100,105,116]⟩ 478)] 0)
noncomputable def o05_206_4 (P : Params) : Obj := { cls := (.type "dict"),dict := none,data := (.dict #[(ky P #[95,95,109,111,100,117,108,101,95,95] 487 (.str ⟨#[111,114,100,101,114,102,108,111,119,46,98,111,111,107]⟩ 446)),(ky P #[95,95,113,117,97,108,110,97,109,101,95,95] 489 (.str ⟨#[66,111,111,107]⟩ 488)),(ky P #[95,95,102,105,114,115,116,108,105,110,101,110,111,95,95] 491 (.int (77) 490)),(ky P #[95,95,105,110,105,116,95,95] 498 (.ref 217)),(ky P #[110,101,101,100] 506 (.ref 224)),(ky P #[100,111] 514 (.ref 231)),(ky P #[98,101,103,105,110] 520 (.ref 236)),(ky P #[99,104,101,99,107] 528 (.ref 243)),(ky P #[109,111,115,116] 536 (.ref 250)),(ky P #[99,104,97,110,103,101] 547 (.ref 257)),(ky P #[112,97,121,95,105,110] 558 (.ref 264)),(ky P #[116,117,114,110] 574 (.ref 271)),(ky P #[117,110,100,111] 583 (.ref 278)),(ky P #[111,114,100,101,114,115] 590 (.ref 285)),(ky P #[116,111,108,100] 596 (.ref 290)),(ky P #[112,97,105,100] 604 (.ref 297)),(ky P #[111,119,101,100] 610 (.ref 302)),(ky P #[114,111,119,115] 618 (.ref 309)),(ky P #[115,101,116,116,108,101,100] 626 (.ref 316)),(ky P #[110,101,116] 633 (.ref 323)),(ky P #[95,95,115,116,97,116,105,99,95,97,116,116,114,105,98,117,116,101,115,95,95] 636 (.ref 324))] 21),slots := #[] }
noncomputable def o05_208_4 (P : Params) : Obj := { cls := .none,dict := none,data := (.fields #[(.int (79) 0),(.int (4) 0),(.ref 216),(.int (83) 0),(.int (4) 0),(.ref 223),(.int (87) 0),(.int (4) 0),(.ref 230),(.int (95) 0),(.int (4) 0),(.ref 235),(.int (103) 0),(.int (4) 0),(.ref 242),(.int (116) 0),(.int (4) 0),(.ref 249),(.int (121) 0),(.int (4) 0),(.ref 256),(.int (136) 0),(.int (4) 0),(.ref 263),(.int (141) 0),(.int (4) 0),(.ref 270),(.int (150) 0),(.int (4) 0),(.ref 277),(.int (161) 0),(.int (4) 0),(.ref 284),(.int (164) 0),(.int (4) 0),(.ref 289),(.int (168) 0),(.int (4) 0),(.ref 296),(.int (172) 0),(.int (4) 0),(.ref 301),(.int (176) 0),(.int (4) 0),(.ref 308),(.int (180) 0),(.int (4) 0),(.ref 315),(.int (183) 0),(.int (4) 0),(.ref 322)]),slots := #[] }
noncomputable def o05_209_4 (P : Params) : Obj := { cls := (.type "code"),dict := none,data := (.fields #[(.str ⟨#[66,111,111,107]⟩ 482),(.str ⟨#[66,111,111,107]⟩ 483),(.str ⟨#[47,99,108,97,105,109,47,99,117,116,46,112,121]⟩ 484),(.int (77) 0),(.int (0) 0),(.int (0) 0),(.int (0) 0),(.int (0) 0),(.ref 207),(.bool false),(.int (181) 0),(.ref 208),.none,.none,.none,.none,(.int (485) 0),(.int (77) 0),(.str ⟨#[47,99,108,97,105,109,47,99,117,116,46,112,121]⟩ 486)]),slots := #[] }
noncomputable def o05_210_4 (P : Params) : Obj := { cls := (.type "frame"),dict := none,data := .plain,slots := #[(some (.ref 209)),(some (.ref 3)),(some (.ref 206)),none,(some (.str ⟨#[111,114,100,101,114,102,108,111,119,46,98,111,111,107]⟩ 446)),none,(some (.ref 0))] }
noncomputable def o05_213_4 (P : Params) : Obj := ob (.type "tuple") (.seq #[(.str ⟨#[115,101,108,102]⟩ 495)] 0)
noncomputable def o05_215_4 (P : Params) : Obj := fo .none #[95,95,105,110,105,116,95,95] #[66,111,111,107,46,95,95,105,110,105,116,95,95] (methS 31 0) 0 .none .none
noncomputable def o05_216_4 (P : Params) : Obj := { cls := (.type "code"),dict := none,data := (.fields #[(.str ⟨#[95,95,105,110,105,116,95,95]⟩ 492),(.str ⟨#[66,111,111,107,46,95,95,105,110,105,116,95,95]⟩ 493),(.str ⟨#[47,99,108,97,105,109,47,99,117,116,46,112,121]⟩ 494),(.int (79) 0),(.int (1) 0),(.int (0) 0),(.int (0) 0),(.int (3) 0),(.ref 211),(.bool true),(.int (181) 0),(.ref 212),.none,(.ref 213),(.ref 214),(.ref 215),(.int (496) 0),(.int (79) 0),(.str ⟨#[47,99,108,97,105,109,47,99,117,116,46,112,121]⟩ 497)]),slots := #[] }
noncomputable def o05_217_4 (P : Params) : Obj := fo (.type "function") #[95,95,105,110,105,116,95,95] #[66,111,111,107,46,95,95,105,110,105,116,95,95] (methS 31 0) 3 (.str ⟨#[111,114,100,101,114,102,108,111,119,46,98,111,111,107]⟩ 446) (.ref 216)
noncomputable def o05_220_4 (P : Params) : Obj := ob (.type "tuple") (.seq #[(.str ⟨#[115,101,108,102]⟩ 502),(.str ⟨#[111,114,100,101,114]⟩ 503)] 0)
noncomputable def o05_222_4 (P : Params) : Obj := fo .none #[110,101,101,100] #[66,111,111,107,46,110,101,101,100] (methS 31 1) 0 .none .none
noncomputable def o05_223_4 (P : Params) : Obj := { cls := (.type "code"),dict := none,data := (.fields #[(.str ⟨#[110,101,101,100]⟩ 499),(.str ⟨#[66,111,111,107,46,110,101,101,100]⟩ 500),(.str ⟨#[47,99,108,97,105,109,47,99,117,116,46,112,121]⟩ 501),(.int (83) 0),(.int (2) 0),(.int (0) 0),(.int (0) 0),(.int (3) 0),(.ref 218),(.bool true),(.int (181) 0),(.ref 219),.none,(.ref 220),(.ref 221),(.ref 222),(.int (504) 0),(.int (83) 0),(.str ⟨#[47,99,108,97,105,109,47,99,117,116,46,112,121]⟩ 505)]),slots := #[] }
noncomputable def o05_224_4 (P : Params) : Obj := fo (.type "function") #[110,101,101,100] #[66,111,111,107,46,110,101,101,100] (methS 31 1) 3 (.str ⟨#[111,114,100,101,114,102,108,111,119,46,98,111,111,107]⟩ 446) (.ref 223)
noncomputable def o05_227_4 (P : Params) : Obj := ob (.type "tuple") (.seq #[(.str ⟨#[115,101,108,102]⟩ 510),(.str ⟨#[100,101,101,100]⟩ 511)] 0)
noncomputable def o05_229_4 (P : Params) : Obj := fo .none #[100,111] #[66,111,111,107,46,100,111] (methS 31 2) 0 .none .none
noncomputable def o05_230_4 (P : Params) : Obj := { cls := (.type "code"),dict := none,data := (.fields #[(.str ⟨#[100,111]⟩ 507),(.str ⟨#[66,111,111,107,46,100,111]⟩ 508),(.str ⟨#[47,99,108,97,105,109,47,99,117,116,46,112,121]⟩ 509),(.int (87) 0),(.int (2) 0),(.int (0) 0),(.int (0) 0),(.int (3) 0),(.ref 225),(.bool true),(.int (181) 0),(.ref 226),.none,(.ref 227),(.ref 228),(.ref 229),(.int (512) 0),(.int (87) 0),(.str ⟨#[47,99,108,97,105,109,47,99,117,116,46,112,121]⟩ 513)]),slots := #[] }
noncomputable def o05_231_4 (P : Params) : Obj := fo (.type "function") #[100,111] #[66,111,111,107,46,100,111] (methS 31 2) 3 (.str ⟨#[111,114,100,101,114,102,108,111,119,46,98,111,111,107]⟩ 446) (.ref 230)
noncomputable def o05_234_4 (P : Params) : Obj := fo .none #[98,101,103,105,110] #[66,111,111,107,46,98,101,103,105,110] (methS 31 3) 0 .none .none
noncomputable def o05_235_4 (P : Params) : Obj := { cls := (.type "code"),dict := none,data := (.fields #[(.str ⟨#[98,101,103,105,110]⟩ 515),(.str ⟨#[66,111,111,107,46,98,101,103,105,110]⟩ 516),(.str ⟨#[47,99,108,97,105,109,47,99,117,116,46,112,121]⟩ 517),(.int (95) 0),(.int (2) 0),(.int (0) 0),(.int (0) 0),(.int (3) 0),(.ref 232),(.bool true),(.int (181) 0),(.ref 233),.none,.none,.none,(.ref 234),(.int (518) 0),(.int (95) 0),(.str ⟨#[47,99,108,97,105,109,47,99,117,116,46,112,121]⟩ 519)]),slots := #[] }
noncomputable def o05_236_4 (P : Params) : Obj := fo (.type "function") #[98,101,103,105,110] #[66,111,111,107,46,98,101,103,105,110] (methS 31 3) 3 (.str ⟨#[111,114,100,101,114,102,108,111,119,46,98,111,111,107]⟩ 446) (.ref 235)
noncomputable def o05_239_4 (P : Params) : Obj := ob (.type "tuple") (.seq #[(.str ⟨#[115,101,108,102]⟩ 524),(.str ⟨#[100,101,101,100]⟩ 525)] 0)
noncomputable def o05_241_4 (P : Params) : Obj := fo .none #[99,104,101,99,107] #[66,111,111,107,46,99,104,101,99,107] (methS 31 4) 0 .none .none
noncomputable def o05_242_4 (P : Params) : Obj := { cls := (.type "code"),dict := none,data := (.fields #[(.str ⟨#[99,104,101,99,107]⟩ 521),(.str ⟨#[66,111,111,107,46,99,104,101,99,107]⟩ 522),(.str ⟨#[47,99,108,97,105,109,47,99,117,116,46,112,121]⟩ 523),(.int (103) 0),(.int (2) 0),(.int (0) 0),(.int (0) 0),(.int (3) 0),(.ref 237),(.bool true),(.int (181) 0),(.ref 238),.none,(.ref 239),(.ref 240),(.ref 241),(.int (526) 0),(.int (103) 0),(.str ⟨#[47,99,108,97,105,109,47,99,117,116,46,112,121]⟩ 527)]),slots := #[] }
noncomputable def o05_243_4 (P : Params) : Obj := fo (.type "function") #[99,104,101,99,107] #[66,111,111,107,46,99,104,101,99,107] (methS 31 4) 3 (.str ⟨#[111,114,100,101,114,102,108,111,119,46,98,111,111,107]⟩ 446) (.ref 242)
noncomputable def o05_246_4 (P : Params) : Obj := ob (.type "tuple") (.seq #[(.str ⟨#[115,101,108,102]⟩ 532),(.str ⟨#[100,101,101,100]⟩ 533)] 0)
noncomputable def o05_248_4 (P : Params) : Obj := fo .none #[109,111,115,116] #[66,111,111,107,46,109,111,115,116] (methS 31 5) 0 .none .none
noncomputable def o05_249_4 (P : Params) : Obj := { cls := (.type "code"),dict := none,data := (.fields #[(.str ⟨#[109,111,115,116]⟩ 529),(.str ⟨#[66,111,111,107,46,109,111,115,116]⟩ 530),(.str ⟨#[47,99,108,97,105,109,47,99,117,116,46,112,121]⟩ 531),(.int (116) 0),(.int (2) 0),(.int (0) 0),(.int (0) 0),(.int (3) 0),(.ref 244),(.bool true),(.int (181) 0),(.ref 245),.none,(.ref 246),(.ref 247),(.ref 248),(.int (534) 0),(.int (116) 0),(.str ⟨#[47,99,108,97,105,109,47,99,117,116,46,112,121]⟩ 535)]),slots := #[] }
noncomputable def o05_250_4 (P : Params) : Obj := fo (.type "function") #[109,111,115,116] #[66,111,111,107,46,109,111,115,116] (methS 31 5) 3 (.str ⟨#[111,114,100,101,114,102,108,111,119,46,98,111,111,107]⟩ 446) (.ref 249)
noncomputable def o05_253_4 (P : Params) : Obj := ob (.type "tuple") (.seq #[(.str ⟨#[115,101,108,102]⟩ 540),(.str ⟨#[100,101,101,100]⟩ 541),(.str ⟨#[119,111,114,100]⟩ 542),(.str ⟨#[109,97,110,121]⟩ 543),(.str ⟨#[111,108,100]⟩ 544)] 0)
noncomputable def o05_255_4 (P : Params) : Obj := fo .none #[99,104,97,110,103,101] #[66,111,111,107,46,99,104,97,110,103,101] (methS 31 6) 0 .none .none
noncomputable def o05_256_4 (P : Params) : Obj := { cls := (.type "code"),dict := none,data := (.fields #[(.str ⟨#[99,104,97,110,103,101]⟩ 537),(.str ⟨#[66,111,111,107,46,99,104,97,110,103,101]⟩ 538),(.str ⟨#[47,99,108,97,105,109,47,99,117,116,46,112,121]⟩ 539),(.int (121) 0),(.int (2) 0),(.int (0) 0),(.int (0) 0),(.int (3) 0),(.ref 251),(.bool true),(.int (181) 0),(.ref 252),.none,(.ref 253),(.ref 254),(.ref 255),(.int (545) 0),(.int (121) 0),(.str ⟨#[47,99,108,97,105,109,47,99,117,116,46,112,121]⟩ 546)]),slots := #[] }
noncomputable def o05_257_4 (P : Params) : Obj := fo (.type "function") #[99,104,97,110,103,101] #[66,111,111,107,46,99,104,97,110,103,101] (methS 31 6) 3 (.str ⟨#[111,114,100,101,114,102,108,111,119,46,98,111,111,107]⟩ 446) (.ref 256)
noncomputable def o05_260_4 (P : Params) : Obj := ob (.type "tuple") (.seq #[(.str ⟨#[115,101,108,102]⟩ 551),(.str ⟨#[111,114,100,101,114]⟩ 552),(.str ⟨#[119,111,114,100]⟩ 553),(.str ⟨#[99,101,110,116,115]⟩ 554),(.str ⟨#[101,110,116,114,121]⟩ 555)] 0)
noncomputable def o05_262_4 (P : Params) : Obj := fo .none #[112,97,121,95,105,110] #[66,111,111,107,46,112,97,121,95,105,110] (methS 31 7) 0 .none .none
noncomputable def o05_263_4 (P : Params) : Obj := { cls := (.type "code"),dict := none,data := (.fields #[(.str ⟨#[112,97,121,95,105,110]⟩ 548),(.str ⟨#[66,111,111,107,46,112,97,121,95,105,110]⟩ 549),(.str ⟨#[47,99,108,97,105,109,47,99,117,116,46,112,121]⟩ 550),(.int (136) 0),(.int (4) 0),(.int (0) 0),(.int (0) 0),(.int (3) 0),(.ref 258),(.bool true),(.int (181) 0),(.ref 259),.none,(.ref 260),(.ref 261),(.ref 262),(.int (556) 0),(.int (136) 0),(.str ⟨#[47,99,108,97,105,109,47,99,117,116,46,112,121]⟩ 557)]),slots := #[] }
noncomputable def o05_264_4 (P : Params) : Obj := fo (.type "function") #[112,97,121,95,105,110] #[66,111,111,107,46,112,97,121,95,105,110] (methS 31 7) 3 (.str ⟨#[111,114,100,101,114,102,108,111,119,46,98,111,111,107]⟩ 446) (.ref 263)
noncomputable def o05_267_4 (P : Params) : Obj := ob (.type "tuple") (.seq #[(.str ⟨#[115,101,108,102]⟩ 562),(.str ⟨#[111,114,100,101,114]⟩ 563),(.str ⟨#[112,108,97,99,101]⟩ 564),(.str ⟨#[119,111,114,100]⟩ 565),(.str ⟨#[109,97,110,121]⟩ 566),(.str ⟨#[101,110,116,114,121]⟩ 567),(.str ⟨#[108,105,110,101]⟩ 568),(.str ⟨#[111,116,104,101,114]⟩ 569),(.str ⟨#[99,101,110,116,115]⟩ 570),(.str ⟨#[108,105,110,101,115]⟩ 571)] 0)
noncomputable def o05_269_4 (P : Params) : Obj := fo .none #[116,117,114,110] #[66,111,111,107,46,116,117,114,110] (methS 31 8) 0 .none .none
noncomputable def o05_270_4 (P : Params) : Obj := { cls := (.type "code"),dict := none,data := (.fields #[(.str ⟨#[116,117,114,110]⟩ 559),(.str ⟨#[66,111,111,107,46,116,117,114,110]⟩ 560),(.str ⟨#[47,99,108,97,105,109,47,99,117,116,46,112,121]⟩ 561),(.int (141) 0),(.int (5) 0),(.int (0) 0),(.int (0) 0),(.int (3) 0),(.ref 265),(.bool true),(.int (181) 0),(.ref 266),.none,(.ref 267),(.ref 268),(.ref 269),(.int (572) 0),(.int (141) 0),(.str ⟨#[47,99,108,97,105,109,47,99,117,116,46,112,121]⟩ 573)]),slots := #[] }
noncomputable def o05_271_4 (P : Params) : Obj := fo (.type "function") #[116,117,114,110] #[66,111,111,107,46,116,117,114,110] (methS 31 8) 3 (.str ⟨#[111,114,100,101,114,102,108,111,119,46,98,111,111,107]⟩ 446) (.ref 270)
noncomputable def o05_274_4 (P : Params) : Obj := ob (.type "tuple") (.seq #[(.str ⟨#[115,101,108,102]⟩ 578),(.str ⟨#[108,97,115,116]⟩ 579),(.str ⟨#[111,114,100,101,114]⟩ 580)] 0)
noncomputable def o05_276_4 (P : Params) : Obj := fo .none #[117,110,100,111] #[66,111,111,107,46,117,110,100,111] (methS 31 9) 0 .none .none
noncomputable def o05_277_4 (P : Params) : Obj := { cls := (.type "code"),dict := none,data := (.fields #[(.str ⟨#[117,110,100,111]⟩ 575),(.str ⟨#[66,111,111,107,46,117,110,100,111]⟩ 576),(.str ⟨#[47,99,108,97,105,109,47,99,117,116,46,112,121]⟩ 577),(.int (150) 0),(.int (1) 0),(.int (0) 0),(.int (0) 0),(.int (3) 0),(.ref 272),(.bool true),(.int (181) 0),(.ref 273),.none,(.ref 274),(.ref 275),(.ref 276),(.int (581) 0),(.int (150) 0),(.str ⟨#[47,99,108,97,105,109,47,99,117,116,46,112,121]⟩ 582)]),slots := #[] }
noncomputable def o05_278_4 (P : Params) : Obj := fo (.type "function") #[117,110,100,111] #[66,111,111,107,46,117,110,100,111] (methS 31 9) 3 (.str ⟨#[111,114,100,101,114,102,108,111,119,46,98,111,111,107]⟩ 446) (.ref 277)
noncomputable def o05_281_4 (P : Params) : Obj := ob (.type "tuple") (.seq #[(.str ⟨#[115,101,108,102]⟩ 587)] 0)
noncomputable def o05_283_4 (P : Params) : Obj := fo .none #[111,114,100,101,114,115] #[66,111,111,107,46,111,114,100,101,114,115] (methS 31 10) 0 .none .none
noncomputable def o05_284_4 (P : Params) : Obj := { cls := (.type "code"),dict := none,data := (.fields #[(.str ⟨#[111,114,100,101,114,115]⟩ 584),(.str ⟨#[66,111,111,107,46,111,114,100,101,114,115]⟩ 585),(.str ⟨#[47,99,108,97,105,109,47,99,117,116,46,112,121]⟩ 586),(.int (161) 0),(.int (1) 0),(.int (0) 0),(.int (0) 0),(.int (3) 0),(.ref 279),(.bool true),(.int (181) 0),(.ref 280),.none,(.ref 281),(.ref 282),(.ref 283),(.int (588) 0),(.int (161) 0),(.str ⟨#[47,99,108,97,105,109,47,99,117,116,46,112,121]⟩ 589)]),slots := #[] }
noncomputable def o05_285_4 (P : Params) : Obj := fo (.type "function") #[111,114,100,101,114,115] #[66,111,111,107,46,111,114,100,101,114,115] (methS 31 10) 3 (.str ⟨#[111,114,100,101,114,102,108,111,119,46,98,111,111,107]⟩ 446) (.ref 284)
noncomputable def o05_288_4 (P : Params) : Obj := fo .none #[116,111,108,100] #[66,111,111,107,46,116,111,108,100] (methS 31 11) 0 .none .none
noncomputable def o05_289_4 (P : Params) : Obj := { cls := (.type "code"),dict := none,data := (.fields #[(.str ⟨#[116,111,108,100]⟩ 591),(.str ⟨#[66,111,111,107,46,116,111,108,100]⟩ 592),(.str ⟨#[47,99,108,97,105,109,47,99,117,116,46,112,121]⟩ 593),(.int (164) 0),(.int (2) 0),(.int (0) 0),(.int (0) 0),(.int (3) 0),(.ref 286),(.bool true),(.int (181) 0),(.ref 287),.none,.none,.none,(.ref 288),(.int (594) 0),(.int (164) 0),(.str ⟨#[47,99,108,97,105,109,47,99,117,116,46,112,121]⟩ 595)]),slots := #[] }
noncomputable def o05_290_4 (P : Params) : Obj := fo (.type "function") #[116,111,108,100] #[66,111,111,107,46,116,111,108,100] (methS 31 11) 3 (.str ⟨#[111,114,100,101,114,102,108,111,119,46,98,111,111,107]⟩ 446) (.ref 289)
noncomputable def o05_293_4 (P : Params) : Obj := ob (.type "tuple") (.seq #[(.str ⟨#[115,101,108,102]⟩ 600),(.str ⟨#[111,114,100,101,114]⟩ 601)] 0)
noncomputable def o05_295_4 (P : Params) : Obj := fo .none #[112,97,105,100] #[66,111,111,107,46,112,97,105,100] (methS 31 12) 0 .none .none
noncomputable def o05_296_4 (P : Params) : Obj := { cls := (.type "code"),dict := none,data := (.fields #[(.str ⟨#[112,97,105,100]⟩ 597),(.str ⟨#[66,111,111,107,46,112,97,105,100]⟩ 598),(.str ⟨#[47,99,108,97,105,109,47,99,117,116,46,112,121]⟩ 599),(.int (168) 0),(.int (2) 0),(.int (0) 0),(.int (0) 0),(.int (3) 0),(.ref 291),(.bool true),(.int (181) 0),(.ref 292),.none,(.ref 293),(.ref 294),(.ref 295),(.int (602) 0),(.int (168) 0),(.str ⟨#[47,99,108,97,105,109,47,99,117,116,46,112,121]⟩ 603)]),slots := #[] }
noncomputable def o05_297_4 (P : Params) : Obj := fo (.type "function") #[112,97,105,100] #[66,111,111,107,46,112,97,105,100] (methS 31 12) 3 (.str ⟨#[111,114,100,101,114,102,108,111,119,46,98,111,111,107]⟩ 446) (.ref 296)
noncomputable def o05_300_4 (P : Params) : Obj := fo .none #[111,119,101,100] #[66,111,111,107,46,111,119,101,100] (methS 31 13) 0 .none .none
noncomputable def o05_301_4 (P : Params) : Obj := { cls := (.type "code"),dict := none,data := (.fields #[(.str ⟨#[111,119,101,100]⟩ 605),(.str ⟨#[66,111,111,107,46,111,119,101,100]⟩ 606),(.str ⟨#[47,99,108,97,105,109,47,99,117,116,46,112,121]⟩ 607),(.int (172) 0),(.int (2) 0),(.int (0) 0),(.int (0) 0),(.int (3) 0),(.ref 298),(.bool true),(.int (181) 0),(.ref 299),.none,.none,.none,(.ref 300),(.int (608) 0),(.int (172) 0),(.str ⟨#[47,99,108,97,105,109,47,99,117,116,46,112,121]⟩ 609)]),slots := #[] }
noncomputable def o05_302_4 (P : Params) : Obj := fo (.type "function") #[111,119,101,100] #[66,111,111,107,46,111,119,101,100] (methS 31 13) 3 (.str ⟨#[111,114,100,101,114,102,108,111,119,46,98,111,111,107]⟩ 446) (.ref 301)
noncomputable def o05_305_4 (P : Params) : Obj := ob (.type "tuple") (.seq #[(.str ⟨#[115,101,108,102]⟩ 614),(.str ⟨#[111,114,100,101,114]⟩ 615)] 0)
noncomputable def o05_307_4 (P : Params) : Obj := fo .none #[114,111,119,115] #[66,111,111,107,46,114,111,119,115] (methS 31 14) 0 .none .none
noncomputable def o05_308_4 (P : Params) : Obj := { cls := (.type "code"),dict := none,data := (.fields #[(.str ⟨#[114,111,119,115]⟩ 611),(.str ⟨#[66,111,111,107,46,114,111,119,115]⟩ 612),(.str ⟨#[47,99,108,97,105,109,47,99,117,116,46,112,121]⟩ 613),(.int (176) 0),(.int (2) 0),(.int (0) 0),(.int (0) 0),(.int (3) 0),(.ref 303),(.bool true),(.int (181) 0),(.ref 304),.none,(.ref 305),(.ref 306),(.ref 307),(.int (616) 0),(.int (176) 0),(.str ⟨#[47,99,108,97,105,109,47,99,117,116,46,112,121]⟩ 617)]),slots := #[] }
noncomputable def o05_309_4 (P : Params) : Obj := fo (.type "function") #[114,111,119,115] #[66,111,111,107,46,114,111,119,115] (methS 31 14) 3 (.str ⟨#[111,114,100,101,114,102,108,111,119,46,98,111,111,107]⟩ 446) (.ref 308)
noncomputable def o05_312_4 (P : Params) : Obj := ob (.type "tuple") (.seq #[(.str ⟨#[115,101,108,102]⟩ 622),(.str ⟨#[111,114,100,101,114]⟩ 623)] 0)
noncomputable def o05_314_4 (P : Params) : Obj := fo .none #[115,101,116,116,108,101,100] #[66,111,111,107,46,115,101,116,116,108,101,100] (methS 31 15) 0 .none .none
noncomputable def o05_315_4 (P : Params) : Obj := { cls := (.type "code"),dict := none,data := (.fields #[(.str ⟨#[115,101,116,116,108,101,100]⟩ 619),(.str ⟨#[66,111,111,107,46,115,101,116,116,108,101,100]⟩ 620),(.str ⟨#[47,99,108,97,105,109,47,99,117,116,46,112,121]⟩ 621),(.int (180) 0),(.int (2) 0),(.int (0) 0),(.int (0) 0),(.int (3) 0),(.ref 310),(.bool true),(.int (181) 0),(.ref 311),.none,(.ref 312),(.ref 313),(.ref 314),(.int (624) 0),(.int (180) 0),(.str ⟨#[47,99,108,97,105,109,47,99,117,116,46,112,121]⟩ 625)]),slots := #[] }
noncomputable def o05_316_4 (P : Params) : Obj := fo (.type "function") #[115,101,116,116,108,101,100] #[66,111,111,107,46,115,101,116,116,108,101,100] (methS 31 15) 3 (.str ⟨#[111,114,100,101,114,102,108,111,119,46,98,111,111,107]⟩ 446) (.ref 315)
noncomputable def o05_319_4 (P : Params) : Obj := ob (.type "tuple") (.seq #[(.str ⟨#[115,101,108,102]⟩ 630)] 0)
noncomputable def o05_321_4 (P : Params) : Obj := fo .none #[110,101,116] #[66,111,111,107,46,110,101,116] (methS 31 16) 0 .none .none
noncomputable def o05_322_4 (P : Params) : Obj := { cls := (.type "code"),dict := none,data := (.fields #[(.str ⟨#[110,101,116]⟩ 627),(.str ⟨#[66,111,111,107,46,110,101,116]⟩ 628),(.str ⟨#[47,99,108,97,105,109,47,99,117,116,46,112,121]⟩ 629),(.int (183) 0),(.int (1) 0),(.int (0) 0),(.int (0) 0),(.int (3) 0),(.ref 317),(.bool true),(.int (181) 0),(.ref 318),.none,(.ref 319),(.ref 320),(.ref 321),(.int (631) 0),(.int (183) 0),(.str ⟨#[47,99,108,97,105,109,47,99,117,116,46,112,121]⟩ 632)]),slots := #[] }
noncomputable def o05_323_4 (P : Params) : Obj := fo (.type "function") #[110,101,116] #[66,111,111,107,46,110,101,116] (methS 31 16) 3 (.str ⟨#[111,114,100,101,114,102,108,111,119,46,98,111,111,107]⟩ 446) (.ref 322)
noncomputable def o05_324_4 (P : Params) : Obj := ob (.type "tuple") (.seq #[(.str ⟨#[101,110,116,114,105,101,115]⟩ 634),(.str ⟨#[104,105,115,116,111,114,121]⟩ 635)] 0)
noncomputable def o05_325_4 (P : Params) : Obj := { cls := (.type "dict"),dict := none,data := (.dict #[(ky P #[95,95,109,111,100,117,108,101,95,95] 487 (.str ⟨#[111,114,100,101,114,102,108,111,119,46,98,111,111,107]⟩ 446)),(ky P #[95,95,102,105,114,115,116,108,105,110,101,110,111,95,95] 491 (.int (77) 490)),(ky P #[95,95,105,110,105,116,95,95] 498 (.ref 217)),(ky P #[110,101,101,100] 506 (.ref 224)),(ky P #[100,111] 514 (.ref 231)),(ky P #[98,101,103,105,110] 520 (.ref 236)),(ky P #[99,104,101,99,107] 528 (.ref 243)),(ky P #[109,111,115,116] 536 (.ref 250)),(ky P #[99,104,97,110,103,101] 547 (.ref 257)),(ky P #[112,97,121,95,105,110] 558 (.ref 264)),(ky P #[116,117,114,110] 574 (.ref 271)),(ky P #[117,110,100,111] 583 (.ref 278)),(ky P #[111,114,100,101,114,115] 590 (.ref 285)),(ky P #[116,111,108,100] 596 (.ref 290)),(ky P #[112,97,105,100] 604 (.ref 297)),(ky P #[111,119,101,100] 610 (.ref 302)),(ky P #[114,111,119,115] 618 (.ref 309)),(ky P #[115,101,116,116,108,101,100] 626 (.ref 316)),(ky P #[110,101,116] 633 (.ref 323)),(ky P #[95,95,115,116,97,116,105,99,95,97,116,116,114,105,98,117,116,101,115,95,95] 636 (.ref 324)),(ky P #[95,95,100,105,99,116,95,95] 638 (.ref 327)),(ky P #[95,95,119,101,97,107,114,101,102,95,95] 640 (.ref 328)),(ky P #[95,95,100,111,99,95,95] 641 .none)] 4),slots := #[] }
noncomputable def o05_326_4 (P : Params) : Obj := { cls := (.type "type"),dict := none,data := (.cls { name := ⟨#[66,111,111,107]⟩,bases := [(.type "object")],mro := [(.ref 326),(.type "object")],ns := 325,qualname := ⟨#[66,111,111,107]⟩,hasDict := true,slotNames := [],subclasses := [],abstract := false,collection := none,hasDel := false }),slots := #[none,none,(some (.str ⟨#[66,111,111,107]⟩ 480)),(some (.str ⟨#[66,111,111,107]⟩ 488)),(some (.builtin "object.__new__")),(some (.bool true))] }
noncomputable def o05_327_4 (P : Params) : Obj := ob (.type "getset_descriptor") (.fields #[(.str ⟨#[95,95,100,105,99,116,95,95]⟩ 637),(.ref 326),(.builtin "function.__dict__"),(.builtin "function.__dict__#set")])
noncomputable def o05_328_4 (P : Params) : Obj := ob (.type "getset_descriptor") (.fields #[(.str ⟨#[95,95,119,101,97,107,114,101,102,95,95]⟩ 639),(.ref 326),(.builtin "ExceptionGroup.__weakref__"),.none])
noncomputable def o05_329_4 (P : Params) : Obj := ob (.type "super") (.fields #[(.ref 326),(.ref 326),(.ref 326)])
noncomputable def o05_330_4 (P : Params) : Obj := ob (.type "builtin_function_or_method") (.fields #[(.builtin "object.__init_subclass__"),(.ref 326)])
noncomputable def h05_4 (P : Params) : Heap := ⟨⟨[boot_o_0 P,boot_o_1 P,boot_o_2 P,o05_3_4 P,boot_o_4 P,boot_o_5 P,boot_o_6 P,boot_o_7 P,boot_o_8 P,boot_o_9 P,boot_o_10 P,boot_o_7 P,o05_12_4 P,zCc P,zCb P,boot_o_7 P,boot_o_8 P,zCa P,boot_o_7 P,zCZ P,zCY P,zCX P,zCW P,zAD P,zCV P,boot_o_7 P,boot_o_8 P,zCU P,zCT P,boot_o_7 P,zCS P,zFG P,zCR P,zCQ P,zCP P,zAF P,zAD P,zCO P,boot_o_7 P,boot_o_8 P,zCN P,zCM P,boot_o_7 P,zCL P,zCK P,zCJ P,zCI P,zAF P,zAD P,zCH P,boot_o_7 P,boot_o_8 P,zCG P,zCF P,boot_o_7 P,zCE P,zCD P,zCC P,zCB P,zAF P,zAD P,zDe P,boot_o_7 P,boot_o_8 P,zDd P,zDc P,boot_o_7 P,zDb P,zDa P,zDZ P,zDY P,zAF P,zAD P,zDX P,boot_o_7 P,boot_o_8 P,zDW P,zDV P,boot_o_7 P,zDU P,zDT P,zDS P,zDR P,zAF P,zAD P,zDQ P,boot_o_7 P,boot_o_8 P,zDP P,zDO P,boot_o_7 P,zDN P,zDM P,zDL P,zDK P,zAF P,zAD P,zDJ P,boot_o_7 P,boot_o_8 P,zCi P,zCh P,boot_o_7 P,zCg P,zCf P,zCe P,zCd P,zAF P,zAD P,zET P,boot_o_7 P,boot_o_8 P,zES P,zER P,boot_o_7 P,zEQ P,zEP P,zEO P,zEN P,zAF P,zAD P,zEM P,boot_o_7 P,boot_o_8 P,zEL P,zEK P,boot_o_7 P,zEJ P,zEI P,zEH P,zEG P,zAF P,zAD P,zEF P,boot_o_7 P,boot_o_8 P,zEE P,zED P,boot_o_7 P,zEC P,zEB P,zEA P,zDz P,zAF P,zAD P,zDy P,boot_o_7 P,boot_o_8 P,zDx P,zDw P,boot_o_7 P,zDv P,zDu P,zDt P,zDs P,boot_o_7 P,boot_o_8 P,zGN P,boot_o_7 P,zGM P,zGL P,zGK P,boot_o_7 P,boot_o_8 P,zGJ P,zGI P,zGH P,boot_o_7 P,boot_o_8 P,zGG P,boot_o_7 P,zGF P,zGE P,zGD P,boot_o_7 P,boot_o_8 P,zGC P,boot_o_7 P,zGB P,zGA P,zFz P,boot_o_7 P,boot_o_8 P,zFy P,boot_o_7 P,zFx P,zFw P,zFv P,boot_o_7 P,boot_o_8 P,zFu P,boot_o_7 P,zFt P,zFs P,zFr P,boot_o_7 P,boot_o_8 P,zFq P,boot_o_7 P,zFp P,zFo P,zFn P,zFm P,o05_203_4 P,boot_o_7 P,zAD P,o05_206_4 P,boot_o_7 P,o05_208_4 P,o05_209_4 P,o05_210_4 P,boot_o_7 P,boot_o_8 P,o05_213_4 P,boot_o_7 P,o05_215_4 P,o05_216_4 P,o05_217_4 P,boot_o_7 P,boot_o_8 P,o05_220_4 P,boot_o_7 P,o05_222_4 P,o05_223_4 P,o05_224_4 P,boot_o_7 P,boot_o_8 P,o05_227_4 P,boot_o_7 P,o05_229_4 P,o05_230_4 P,o05_231_4 P,boot_o_7 P,boot_o_8 P,o05_234_4 P,o05_235_4 P,o05_236_4 P,boot_o_7 P,boot_o_8 P,o05_239_4 P,boot_o_7 P,o05_241_4 P,o05_242_4 P,o05_243_4 P,boot_o_7 P,boot_o_8 P,o05_246_4 P,boot_o_7 P,o05_248_4 P,o05_249_4 P,o05_250_4 P,boot_o_7 P,boot_o_8 P,o05_253_4 P,boot_o_7 P,o05_255_4 P,o05_256_4 P,o05_257_4 P,boot_o_7 P,boot_o_8 P,o05_260_4 P,boot_o_7 P,o05_262_4 P,o05_263_4 P,o05_264_4 P,boot_o_7 P,boot_o_8 P,o05_267_4 P,boot_o_7 P,o05_269_4 P,o05_270_4 P,o05_271_4 P,boot_o_7 P,boot_o_8 P,o05_274_4 P,boot_o_7 P,o05_276_4 P,o05_277_4 P,o05_278_4 P,boot_o_7 P,boot_o_8 P,o05_281_4 P,boot_o_7 P,o05_283_4 P,o05_284_4 P,o05_285_4 P,boot_o_7 P,boot_o_8 P,o05_288_4 P,o05_289_4 P,o05_290_4 P,boot_o_7 P,boot_o_8 P,o05_293_4 P,boot_o_7 P,o05_295_4 P,o05_296_4 P,o05_297_4 P,boot_o_7 P,boot_o_8 P,o05_300_4 P,o05_301_4 P,o05_302_4 P,boot_o_7 P,boot_o_8 P,o05_305_4 P,boot_o_7 P,o05_307_4 P,o05_308_4 P,o05_309_4 P,boot_o_7 P,boot_o_8 P,o05_312_4 P,boot_o_7 P,o05_314_4 P,o05_315_4 P,o05_316_4 P,boot_o_7 P,boot_o_8 P,o05_319_4 P,boot_o_7 P,o05_321_4 P,o05_322_4 P,o05_323_4 P,o05_324_4 P,o05_325_4 P,o05_326_4 P,o05_327_4 P,o05_328_4 P,o05_329_4 P,o05_330_4 P]⟩,{ registered := [],finalised := [],alive := [],known := 0,ids := [],orphanDicts := [],counting := false,cnt := #[],zero := [],soft := 0,below := false,collecting := false }⟩
noncomputable def s05_4 (w : World) (os : OsState) : Shared := ⟨h05_4 w.params,#[],⟨0,0,0,0⟩,644,os⟩
noncomputable def env05 : Env := { scope := pw05.main.scope,locals := mainNs,globals := mainNs,cells := [],code := (.ref 13),frame := some 14 }
noncomputable def b05 : List Stmt := behindTheImports pw05
noncomputable def c05 : Code := .body b05 env05
noncomputable def z05 (w : World) (os : OsState) : Shared := ⟨boot_heap w.params,Array.mk [],boot_drawn,boot_toks,os⟩
noncomputable def tpre05 (w : World) (os : OsState) := topGo treeTable pw05 w 11 (some (.ref 6)) 12 (z05 w os) (topStub pw05)
noncomputable def tblk05 (w : World) (os : OsState) := (tpre05 w os).bind fun x => segRun treeTable pw05 w 11 (some (.ref 6)) 1 1 x.1 (blockOf b05 env05 c05 ⟨0,0,0,0⟩ [topFrame ⟨0,0,0,0⟩])
theorem pre05 : ∀ (w : World),(fun os => (tpre05 w os).map (·.2)) = fun _ => some ⟨denote treeTable c05,c05,⟨0,0,0,0⟩,[topFrame ⟨0,0,0,0⟩]⟩ := by
  intro w; kernel_rfl
theorem blk05 : ∀ (w : World),(fun os => (tblk05 w os).map fun y => (y.1,y.2.2)) = fun _ => some (.next,c05,⟨0,0,0,0⟩) := by
  intro w; kernel_rfl
noncomputable def L05_0 (w : World) (os : OsState) := (tblk05 w os).bind fun y => segRun treeTable pw05 w 11 (some (.ref 6)) 1 651 y.2.1 (piecesOf ((b05.take 5).drop 0) env05 c05 ⟨0,0,0,0⟩ [topFrame ⟨0,0,0,0⟩])
noncomputable def R05_0 (w : World) (os : OsState) : Option (Flow × Shared × Code × Pos) := some (.next,s05_0 w os,c05,⟨9,0,10,8⟩)
theorem g05_0 : ∀ w : World,L05_0 w = R05_0 w := by
  intro w; kernel_rfl
noncomputable def L05_1 (w : World) (os : OsState) := segRun treeTable pw05 w 11 (some (.ref 6)) 1 853 (s05_0 w os) (piecesOf ((b05.take 9).drop 5) env05 c05 ⟨9,0,10,8⟩ [topFrame ⟨0,0,0,0⟩])
noncomputable def R05_1 (w : World) (os : OsState) : Option (Flow × Shared × Code × Pos) := some (.next,s05_1 w os,c05,⟨17,0,18,8⟩)
theorem g05_1 : ∀ w : World,L05_1 w = R05_1 w := by
  intro w; kernel_rfl
noncomputable def L05_2 (w : World) (os : OsState) := segRun treeTable pw05 w 11 (some (.ref 6)) 1 853 (s05_1 w os) (piecesOf ((b05.take 13).drop 9) env05 c05 ⟨17,0,18,8⟩ [topFrame ⟨0,0,0,0⟩])
noncomputable def R05_2 (w : World) (os : OsState) : Option (Flow × Shared × Code × Pos) := some (.next,s05_2 w os,c05,⟨25,0,26,8⟩)
theorem g05_2 : ∀ w : World,L05_2 w = R05_2 w := by
  intro w; kernel_rfl
noncomputable def L05_3 (w : World) (os : OsState) := segRun treeTable pw05 w 11 (some (.ref 6)) 1 422 (s05_2 w os) (piecesOf ((b05.take 30).drop 13) env05 c05 ⟨25,0,26,8⟩ [topFrame ⟨0,0,0,0⟩])
noncomputable def R05_3 (w : World) (os : OsState) : Option (Flow × Shared × Code × Pos) := some (.next,s05_3 w os,c05,⟨75,0,75,5⟩)
theorem zHC : ∀ w : World,L05_3 (w.withFollow "special-get-raises" false) = R05_3 (w.withFollow "special-get-raises" false) := by
  intro w; kernel_rfl
theorem g05_3_true : ∀ w : World,L05_3 (w.withFollow "special-get-raises" true) = R05_3 (w.withFollow "special-get-raises" true) := by
  intro w; kernel_rfl
theorem g05_3 : ∀ w : World,L05_3 w = R05_3 w := byRow2 "special-get-raises" zHC g05_3_true
noncomputable def L05_4 (w : World) (os : OsState) := segRun treeTable pw05 w 11 (some (.ref 6)) 1 750 (s05_3 w os) (piecesOf ((b05.take 32).drop 30) env05 c05 ⟨75,0,75,5⟩ [topFrame ⟨0,0,0,0⟩])
noncomputable def R05_4 (w : World) (os : OsState) : Option (Flow × Shared × Code × Pos) := some (.next,s05_4 w os,c05,⟨77,0,184,16⟩)
theorem g05_4 : ∀ w : World,L05_4 w = R05_4 w := by
  intro w; kernel_rfl
noncomputable def v05 : Program := view pw05 [0,2,3,4,5,6,7,8,9,10,11,12,14,15,16,17,18,19,20,21,22,23,24,25,26,28,29,30,31,33,34,35,36,37,38,39,40,41,42,43,44,45,46,47]
noncomputable def x05 (s : Shared) : Bool := xlAt v05 [] s && recOk [] s
noncomputable def partsToks05 : List (Nat × Nat) := [(450,451),(452,453),(454,455),(456,457),(458,459),(460,461),(462,463),(464,465)]
noncomputable def linedToks05 : List Nat := [475,476,477,478]
noncomputable def y05 (s : Shared) : Bool × Option Value × Option Obj × Option Value × Option Obj × List (Option (Addr × List Value)) := (s.heap.isNs mainGlobals,s.heap.nsMap mainGlobals "PARTS",s.heap.get? 202,s.heap.nsMap mainGlobals "LINED",s.heap.get? 203,[mroAt s.heap "FlowError",mroAt s.heap "NoDeed",mroAt s.heap "NoLines",mroAt s.heap "NoItem",mroAt s.heap "NoNumber",mroAt s.heap "FullBook",mroAt s.heap "NoOrder",mroAt s.heap "SameOrder",mroAt s.heap "NoLine",mroAt s.heap "TooMuch",mroAt s.heap "NothingDone"])
noncomputable def a05 (w : World) : Bool × Option Value × Option Obj × Option Value × Option Obj × List (Option (Addr × List Value)) := (true,some (.ref 202),some (pObjT w.params partsToks05),some (.ref 203),some (linedObj linedToks05),[some (31,[.ref 31,.type "ValueError",.type "Exception",.type "BaseException",.type "object"]),some (44,[.ref 44,.ref 31,.type "ValueError",.type "Exception",.type "BaseException",.type "object"]),some (56,[.ref 56,.ref 31,.type "ValueError",.type "Exception",.type "BaseException",.type "object"]),some (68,[.ref 68,.ref 31,.type "ValueError",.type "Exception",.type "BaseException",.type "object"]),some (80,[.ref 80,.ref 31,.type "ValueError",.type "Exception",.type "BaseException",.type "object"]),some (92,[.ref 92,.ref 31,.type "ValueError",.type "Exception",.type "BaseException",.type "object"]),some (104,[.ref 104,.ref 31,.type "ValueError",.type "Exception",.type "BaseException",.type "object"]),some (116,[.ref 116,.ref 31,.type "ValueError",.type "Exception",.type "BaseException",.type "object"]),some (128,[.ref 128,.ref 31,.type "ValueError",.type "Exception",.type "BaseException",.type "object"]),some (140,[.ref 140,.ref 31,.type "ValueError",.type "Exception",.type "BaseException",.type "object"]),some (152,[.ref 152,.ref 31,.type "ValueError",.type "Exception",.type "BaseException",.type "object"])])
noncomputable def th05 : Thread := (restOf (b05.drop 32) env05 c05 ⟨77,0,184,16⟩ [topFrame ⟨0,0,0,0⟩])
noncomputable def look05 (w : World) (os : OsState) := (topRun treeTable pw05 w 11 (some (.ref 6)) 484 (s05_4 w os) th05).map fun s₁ => ((staticsOk (importedModules pw05.main.body) (boot_heap w.params) s₁.heap && namesBound pw05 s₁.heap && gensDone s₁ && laidKept (boot_heap w.params) s₁.heap),
        openSeen v05 [("PARTS" : Str)] (importedModules pw05.main.body) x05 true s₁,y05 s₁)
theorem looks05 : ∀ w : World,look05 w = fun _ => some (true,openGood v05 [("PARTS" : Str)],a05 w) := by
  intro w; kernel_rfl
theorem size05 : ∀ w : World,((boot_heap w.params).isNs mainGlobals && (Array.mk [] : Array GenState).size == 0,(boot_heap w.params).objs.size,(boot_heap w.params).nsMap mainGlobals "__annotations__") = (true,11,(some (.ref 6))) := by
  intro w; kernel_rfl
theorem run05 (w : World) (os : OsState) (r : Shared) (k : topRun treeTable pw05 w 11 (some (.ref 6)) 484 (s05_4 w os) th05 = some r) : topRun treeTable pw05 w 11 (some (.ref 6)) (12 + (1 + (651 + (853 + (853 + (422 + (750 + 484))))))) (z05 w os) (topStub pw05) = some r :=
  cut_first (i := 5) (hc := rfl) (congrFun (pre05 w) os) (congrFun (blk05 w) os) (congrFun (g05_0 w) os) (zDh (i := 5) (j := 9) (by decide) (congrFun (g05_1 w) os) (zDh (i := 9) (j := 13) (by decide) (congrFun (g05_2 w) os) (zDh (i := 13) (j := 30) (by decide) (congrFun (g05_3 w) os) (zDh (i := 30) (j := 32) (by decide) (congrFun (g05_4 w) os) k))))
theorem left05 : LeftO pw05 v05 [("PARTS" : Str)] x05 y05 a05 4800 :=
  zGv (n := 3542) (M := 484) (sc := s05_4) (th := th05) (by kernel_rfl) (by decide) (fun s => by kernel_rfl) size05 (fun w os r k => run05 w os r k) (by decide) looks05
theorem well05 : PySem.Challenge.rw_uf040020_05.wellSaid = true := by kernel_rfl
end Mine
end

/-! # Fin05 -/
section
open PySem PySem.W PyProof.Rows
set_option Elab.async false
set_option maxRecDepth 100000
namespace Mine
noncomputable def base05 : List (Str × V) := [("LETTERS", .str letters), ("MOST_SIGNS", .int 12), ("MOST_LINES", .int 20), ("MOST_PIECES", .int 1000000), ("MOST_CENTS", .int 1000000000), ("MOST_PACK", .int 1000), ("MOST_ORDERS", .int 40)]
noncomputable def ex05 : List Ex := [⟨"FlowError", .FlowError, 31, bmV⟩, ⟨"NoDeed", .NoDeed, 44, .ref 31 :: bmV⟩, ⟨"NoLines", .NoLines, 56, .ref 31 :: bmV⟩, ⟨"NoItem", .NoItem, 68, .ref 31 :: bmV⟩, ⟨"NoNumber", .NoNumber, 80, .ref 31 :: bmV⟩, ⟨"FullBook", .FullBook, 92, .ref 31 :: bmV⟩, ⟨"NoOrder", .NoOrder, 104, .ref 31 :: bmV⟩, ⟨"SameOrder", .SameOrder, 116, .ref 31 :: bmV⟩, ⟨"NoLine", .NoLine, 128, .ref 31 :: bmV⟩, ⟨"TooMuch", .TooMuch, 140, .ref 31 :: bmV⟩, ⟨"NothingDone", .NothingDone, 152, .ref 31 :: bmV⟩]
noncomputable def cl05 (c : Cls) : Value := match ex05.find? fun q => q.c == c with
  | some q => .ref q.a
  | none => .none
noncomputable def kn05 : List Cls := ex05.map (·.c)
noncomputable def C05 : Ctx := { fns := [("_wall", 33), ("worth", 20), ("is_item", 21), ("check_lines", 22), ("begun", 23), ("charge", 24), ("most_of", 25), ("behind", 26), ("_law_cell_at", 100), ("_law_whole", 101), ("_law_item_by", 102), ("_law_number_by", 103), ("_law_line_by", 104), ("_law_lines_by", 105), ("_law_is_item", 106), ("_law_due", 107), ("_law_tried", 108), ("_law_of_one_class", 109), ("_law_refused_by_any", 110), ("_law_told_well", 111), ("_law_parts_asked", 112), ("_law_room_again", 113), ("law", 114)], meths := [("__init__", 0), ("need", 1), ("do", 2), ("begin", 3), ("check", 4), ("most", 5), ("change", 6), ("pay_in", 7), ("turn", 8), ("undo", 9), ("orders", 10), ("told", 11), ("paid", 12), ("owed", 13), ("rows", 14), ("settled", 15), ("net", 16)], consts := base05 ++ [(("PARTS" : Str), .parts), (("LINED" : Str), linedV)], excs := (ex05.map fun q => (q.name, q.c)), attrs := attrNames, book := true, trks := trks05 }
noncomputable def lo05 : List Str := looseW v05 [("PARTS" : Str)]
theorem has05 : 0 < (plainsOf v05 lo05).length := by decide +kernel
theorem base05_ok : ∀ q ∈ base05, ConstOk v05 q.1 q.2 := fun q hq => by
  simp only [base05, List.mem_cons, List.not_mem_nil, or_false] at hq
  rcases hq with rfl | rfl | rfl | rfl | rfl | rfl | rfl
  · exact .str _ (by kernel_rfl) (by decide) (by decide +kernel)
  all_goals exact .int _ (by kernel_rfl)
theorem spec05 : (ex05.map fun q => specOf v05 q.name) = ex05.map fun _ => some ("ValueError.__new__", bmV) := by kernel_rfl
theorem kn05_ok : (ex05.all fun q => kn05.contains q.c && (kn05.all fun d => (Value.ref q.a :: q.bm).contains (cl05 d) == q.c.sub d) && cl05 q.c == .ref q.a) = true := by decide +kernel
set_option maxHeartbeats 8000000 in
theorem law05_text : BookLaw v05 lo05 C05 tabM05 tabF05 base05 ex05 cl05 kn05 ((plainsOf v05 lo05)[0]'has05) where
  k1 := by kernel_rfl
  k2 := by decide +kernel
  k3 := by decide +kernel
  k4 := by decide +kernel
  hc := rfl
  hb := base05_ok
  hx := rfl
  hs := fun q hq => List.map_inj_left.mp spec05 q hq
  hcl := fun q hq => by
    simp only [ex05, List.mem_cons, List.not_mem_nil, or_false] at hq
    rcases hq with rfl | rfl | rfl | rfl | rfl | rfl | rfl | rfl | rfl | rfl | rfl <;> rfl
  hbm := fun q hq => by
    simp only [ex05, List.mem_cons, List.not_mem_nil, or_false] at hq
    rcases hq with rfl | rfl | rfl | rfl | rfl | rfl | rfl | rfl | rfl | rfl | rfl
    · exact .inl rfl
    all_goals exact .inr ⟨_, .head _, rfl⟩
  hkn := fun q hq => by
    have := List.all_eq_true.mp kn05_ok q hq
    simp only [Bool.and_eq_true] at this
    exact ⟨List.contains_iff_mem.mp this.1.1, fun d hd => eq_of_beq (List.all_eq_true.mp this.1.2 d hd)⟩
  m1 := List.getElem_mem _
  m2 := by kernel_rfl
  m3 := by decide +kernel
  m4 := by decide +kernel
  m5 := by kernel_rfl
  m6 := by kernel_rfl
  m7 := ⟨by decide +kernel, by decide +kernel⟩
  at0 := rfl
  cln := ⟨by kernel_rfl, by kernel_rfl, by kernel_rfl⟩
noncomputable def ms05 : List (Str × Addr × List Value) := ex05.map fun q => (q.name, q.a, .ref q.a :: q.bm)
noncomputable def says05 (w : World) (h : Heap) : Prop := Says w.params 202 203 partsToks05 linedToks05 ms05 h
theorem of05 (w : World) (s : Shared) (h : y05 s = a05 w) : says05 w s.heap := says_of h
theorem keeps05 (w : World) (h h' : Heap) (x : says05 w h) (k : ∀ b o, h.get? b = some o → h'.get? b = some o) : says05 w h' := Says.keeps x k
end Mine
set_option maxHeartbeats 8000000 in
theorem PySem.Challenge.cw_uf040020_05_holds : PySem.Challenge.rw_uf040020_05.Holds := by
  w_on
  refine holds_law Mine.well05 fun said => ?_
  refine holds_open (q := Mine.v05) (loose := [("PARTS" : Str)]) (Xt := Mine.x05) (XP := XL Mine.v05 []) (Yf := Mine.y05) (Ya := Mine.a05) (YP := Mine.says05) (N := 4800) Mine.left05 Mine.of05 Mine.keeps05 (fun s e => xl_of s (Bool.and_eq_true_iff.mp e).1) XL.keeps (by rfl) (by rfl) (by rfl) (fun s e => recFacts_of (Bool.and_eq_true_iff.mp e).2) (by rfl) (by first | assumption | decide +kernel) (by decide +kernel) ⟨rfl, rfl, rfl, rfl, rfl, by decide +kernel⟩ ?hw ?hc
  case hw => w_witness2
  intro w s₀ s₁ mg mb G Y fa o pm cd doc dV kV ho hd hcd hD hmg hg args vals as hpre hlay hrd hwl hlo
  have hmg' : mg ("law" : Str) = some (.ref fa) := hmg
  clear hd hcd hD hmg
  refine Ground.open G ?_
  intro T B D TE TW
  wrow_args hpre hlay hrd hwl hlo
  refine enter_call ?_
  rename_i ns _ _ _ _ _ _ _ a _ _ _ _ W _ _ _ hlen _
  refine codeAny_mono (Mine.book_walk (d := 7) (k := 114) Mine.law05_text T TE Y (by rfl) (by rfl) (by rfl) (by rfl) hmg' W (by omega) (by decide) (Mine.law05 (d := 0) ns (by omega))) fun r s' h => ?_
  obtain ⟨rfl, hk, hos, hgs⟩ := h
  exact Mine.law_good PySem.Challenge.rw_uf040020_05 hk hos hg hgs
end

